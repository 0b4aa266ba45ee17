import PyProof.Rows.All
import Wide.All
import OpenK.AllK
import Wide.FinOn
import HandS.ForMost
import HandS.Exc
import HandS.ExcOwn
import HandS.Lambda
import HandS.WordsExc
import HandS.TupAny
import HandS.IsInst
import HandS.Style
import HandS.Deep
import HandS.Zip
import HandS.SetFor
import HandS.SortInts
import PyProof.ReprRoads
import HandS.Conv
import KE.KExcSuper
import HandS.RaiseMore
import HandS.ExcIs
import KE.KExcIs
import HandS.CallLocal
import HandS.Dict
import PyProof.InstNe
import HandS.SortRule
import HandS.TupLen
import HandS.DictComp
import KE.KDictKeyed
import KE.DataMinMax
import HandS.EndTab
import HandS.Defaults
import HandS.HeadHook4
import HandS.TupMul
import HandS.Small
import HandS.TupSets
import PyProof.CallFns
import KE.KStateDown
import HandS.Head0
import HandS.Head1
import HandS.Head2
import PySem.Challenge.RW_roundwright_k03_whole_least_labellings_a
set_option Elab.async false
set_option linter.all false
set_option maxRecDepth 100000
set_option maxHeartbeats 0
/-! RwCore: data D, the local store, how both lie on the abstract heap, and the weakest-precondition mirrors. -/
namespace RW
open PySem PySem.Spec PyProof.Rows L2

/-- plain data -/
inductive D where
  | non | bl (b : Bool) | int (i : Int) | str (x : Str)
  | tup (xs : List D) | lst (xs : List D) | dic (kvs : List (D × D))
  | ins (c : Str) (fs : List (Str × D))
  | exc (c : Str) (fs : List (Str × D))
  | gl (n : Str) | drw | ty (n : String)
  | act (n : Nat) (o : Addr → Addr → HO) (q : Str)

structure Cxt where
  K : PySem.W.Frag
  mg : Str → Option Value
  tabs : List (Addr × Str)
/-- where the draw lies: its dict, its list of large numbers, its cells -/
abbrev Gh := Option (Addr × Addr × Addr) × List (Addr × Str)
def DrA0 (d : Option (Addr × Addr × Addr)) (x : Addr) : Prop := match d with | none => False | some (a, l, c) => x = a ∨ x = l ∨ x = c
def DrA (g : Gh) (x : Addr) : Prop := DrA0 g.1 x ∨ ∃ p ∈ g.2, p.1 = x
def GhLe (g g' : Gh) : Prop := (g.1 = none ∨ g'.1 = g.1) ∧ g'.2 = g.2
theorem GhLe.refl {g : Gh} : GhLe g g := ⟨.inr rfl, rfl⟩
theorem GhLe.trans {g g1 g2 : Gh} (a : GhLe g g1) (b : GhLe g1 g2) : GhLe g g2 := by
  refine ⟨?_, b.2.trans a.2⟩
  rcases a.1 with h | h
  · exact .inl h
  · rcases b.1 with q | q
    · exact .inl (h.symm.trans q)
    · exact .inr (q.trans h)
abbrev kStr (s : String) : Key := .inr (Str.ofString s)
/-- the draw as it lies -/
def DrOk (H : Hp) (a l c : Addr) : Prop := a ≠ l ∧ a ≠ c ∧ l ≠ c ∧ ∃ (L N : List Int) (r t : Int), H a = some (.dK [(kStr "large", .ref l), (kStr "rest", .int r), (kStr "cells", .ref c), (kStr "turn", .int t)]) ∧
  H l = some (.lst (L.map V.int)) ∧ H c = some (.lst (N.map V.int)) ∧ 0 ≤ r ∧ 0 ≤ t ∧ (∀ x ∈ L, 0 ≤ x) ∧ (∀ x ∈ N, 0 ≤ x) ∧ L.length ≤ 63 ∧ N.length ≤ 63
def DrIs0 (d : Option (Addr × Addr × Addr)) (H : Hp) : Prop := match d with | none => True | some (a, l, c) => DrOk H a l c
def DrIs (C : Cxt) (g : Gh) (H : Hp) : Prop := DrIs0 g.1 H ∧ LamX.Tabs g.2 H ∧ g.2 = C.tabs
theorem DrIs.there {C : Cxt} {g : Gh} {H : Hp} (h : DrIs C g H) {x : Addr} (hx : DrA g x) : ∃ o, H x = some o := by
  rcases hx with hx | ⟨p, hp, rfl⟩
  · obtain ⟨d, T⟩ := g
    match d, h.1, hx with
    | some (a, l, c), ⟨_, _, _, L, N, r, t, h1, h2, h3, _⟩, hx =>
      rcases hx with rfl | rfl | rfl
      · exact ⟨_, h1⟩
      · exact ⟨_, h2⟩
      · exact ⟨_, h3⟩
  · obtain ⟨qs, h1, _⟩ := h.2.1 p hp
    exact ⟨_, h1⟩
/-- objects that are never written -/
def Imm : HO → Prop
  | .tup _ => True
  | .own _ => True
  | .xd _ => True
  | .frz _ _ => True
  | .ext _ => True
  | _ => False
def KL (K : PySem.W.Frag) (a : Addr) (xs : List V) : Prop :=
  ∃ (o : Obj) (its : Array Value) (n : Nat), K.lookup a = some o ∧ o.cls = .type "list" ∧ o.dict = none ∧ o.data = .seq its n ∧ its.size ≤ sizeLine ∧ Vals xs its.toList
/-- a list that stands still: tracked and outside B, locked, or of the module -/
def NdL (C : Cxt) (B : Addr → Prop) (H : Hp) (a : Addr) (xs : List V) : Prop := (H a = some (.lst xs) ∧ ¬ B a) ∨ (∃ o, H a = some (.frz o (.lst xs))) ∨ KL C.K a xs
theorem NdL.sq {C : Cxt} {B : Addr → Prop} {H : Hp} {a : Addr} {xs : List V} (h : NdL C B H a xs) : SqL C.K H a xs := by
  rcases h with ⟨h, _⟩ | h | h
  · exact .inl (.inl h)
  · exact .inl (.inr h)
  · exact .inr h
/-- an exception object as a value -/
def ExK (Ca : Addr) (d : Option Addr) (a : Addr) : HO := .ext fun h => ∃ (oe : Obj) (vs : Array Value), h.get? a = some oe ∧ oe.cls = .ref Ca ∧ oe.dict = d ∧ oe.data = .fields vs
def kD : Key → D
  | .inl i => .int i
  | .inr x => .str x

mutual
inductive RV (C : Cxt) (g : Gh) (B : Addr → Prop) (H : Hp) : D → V → Prop
  | non : RV C g B H .non .non
  | bl (b : Bool) : RV C g B H (.bl b) (.bl b)
  | int (i : Int) : RV C g B H (.int i) (.int i)
  | str (x : Str) : RV C g B H (.str x) (.str x)
  | tup {a : Addr} {vs : List V} {xs : List D} : H a = some (.tup vs) → RVs C g B H xs vs → RV C g B H (.tup xs) (.ref a)
  | lst {a : Addr} {vs : List V} {xs : List D} : NdL C B H a vs → RVs C g B H xs vs → RV C g B H (.lst xs) (.ref a)
  | dicK {a : Addr} {kvs : List (Key × V)} {xs : List (D × D)} {o : Obj} : H a = some (.frz o (.dK kvs)) → RKs C g B H xs kvs → RV C g B H (.dic xs) (.ref a)
  | dicT {a : Addr} {kvs : List (List Key × V)} {xs : List (D × D)} {o : Obj} : H a = some (.frz o (.dT kvs)) → RTs C g B H xs kvs → RV C g B H (.dic xs) (.ref a)
  | ins {c : Str} {Ca a dx : Addr} {fvs : List (Str × V)} {fs : List (Str × D)} : C.mg c = some (.ref Ca) → H a = some (.ins Ca dx fvs) → H dx = some (.own a) → ¬ B a → RFs C g B H fs fvs → RV C g B H (.ins c fs) (.ref a)
  | exc0 {c : Str} {Ca a : Addr} : C.mg c = some (.ref Ca) → H a = some (ExK Ca none a) → ¬ B a → RV C g B H (.exc c []) (.ref a)
  | exc1 {c : Str} {Ca a dd : Addr} {fvs : List (Str × V)} {fs : List (Str × D)} : C.mg c = some (.ref Ca) → H a = some (ExK Ca (some dd) a) → ¬ B a → H dd = some (.xd fvs) → RFs C g B H fs fvs → RV C g B H (.exc c fs) (.ref a)
  | gl {n : Str} {a : Addr} : C.mg n = some (.ref a) → RV C g B H (.gl n) (.ref a)
  | drw {a l c : Addr} : g.1 = some (a, l, c) → RV C g B H .drw (.ref a)
  | ty (n : String) : RV C g B H (.ty n) (.ty n)
  | act {n : Nat} {o : Addr → Addr → HO} {q : Str} {a c : Addr} : H a = some (o a c) → ¬ B a → H c = some (LamX.CodeO c q) → RV C g B H (.act n o q) (.ref a)
inductive RVs (C : Cxt) (g : Gh) (B : Addr → Prop) (H : Hp) : List D → List V → Prop
  | nil : RVs C g B H [] []
  | cons {d : D} {v : V} {ds : List D} {vs : List V} : RV C g B H d v → RVs C g B H ds vs → RVs C g B H (d :: ds) (v :: vs)
inductive RFs (C : Cxt) (g : Gh) (B : Addr → Prop) (H : Hp) : List (Str × D) → List (Str × V) → Prop
  | nil : RFs C g B H [] []
  | cons {n : Str} {d : D} {v : V} {ds : List (Str × D)} {vs : List (Str × V)} : RV C g B H d v → RFs C g B H ds vs → RFs C g B H ((n, d) :: ds) ((n, v) :: vs)
inductive RKs (C : Cxt) (g : Gh) (B : Addr → Prop) (H : Hp) : List (D × D) → List (Key × V) → Prop
  | nil : RKs C g B H [] []
  | cons {k : Key} {d : D} {v : V} {ds : List (D × D)} {vs : List (Key × V)} : RV C g B H d v → RKs C g B H ds vs → RKs C g B H ((kD k, d) :: ds) ((k, v) :: vs)
inductive RTs (C : Cxt) (g : Gh) (B : Addr → Prop) (H : Hp) : List (D × D) → List (List Key × V) → Prop
  | nil : RTs C g B H [] []
  | cons {k : List Key} {d : D} {v : V} {ds : List (D × D)} {vs : List (List Key × V)} : RV C g B H d v → RTs C g B H ds vs → RTs C g B H ((.tup (k.map kD), d) :: ds) ((k, v) :: vs)
end

/-- what data needs to stay data -/
structure Up (g : Gh) (B : Addr → Prop) (H : Hp) (g' : Gh) (B' : Addr → Prop) (H' : Hp) : Prop where
  imm : ∀ b o, H b = some o → Imm o → H' b = some o
  keep : ∀ b o, H b = some o → ¬ B b → H' b = some o ∧ ¬ B' b
  gh : GhLe g g'
section
variable {C : Cxt} {g g' : Gh} {B B' : Addr → Prop} {H H' : Hp}
theorem NdL.mono (u : Up g B H g' B' H') {a : Addr} {xs : List V} (h : NdL C B H a xs) : NdL C B' H' a xs := by
  rcases h with ⟨h, n⟩ | ⟨o, h⟩ | h
  · exact .inl (u.keep _ _ h n)
  · exact .inr (.inl ⟨o, u.imm _ _ h trivial⟩)
  · exact .inr (.inr h)
theorem SqT.up (u : Up g B H g' B' H') {a : Addr} {xs : List V} (h : SqT C.K H a xs) : SqT C.K H' a xs := by
  rcases h with (h | ⟨o, h⟩) | h
  · exact .inl (.inl (u.imm _ _ h trivial))
  · exact .inl (.inr ⟨o, u.imm _ _ h trivial⟩)
  · exact .inr h
mutual
theorem RV.mono (u : Up g B H g' B' H') : ∀ {d : D} {v : V}, RV C g B H d v → RV C g' B' H' d v
  | _, _, .non => .non
  | _, _, .bl b => .bl b
  | _, _, .int i => .int i
  | _, _, .str x => .str x
  | _, _, .tup h r => .tup (u.imm _ _ h trivial) (RVs.mono u r)
  | _, _, .lst h r => .lst (h.mono u) (RVs.mono u r)
  | _, _, .dicK h r => .dicK (u.imm _ _ h trivial) (RKs.mono u r)
  | _, _, .dicT h r => .dicT (u.imm _ _ h trivial) (RTs.mono u r)
  | _, _, .ins m h o n r => .ins m (u.keep _ _ h n).1 (u.imm _ _ o trivial) (u.keep _ _ h n).2 (RFs.mono u r)
  | _, _, .exc0 m h n => .exc0 m (u.keep _ _ h n).1 (u.keep _ _ h n).2
  | _, _, .exc1 m h n x r => .exc1 m (u.keep _ _ h n).1 (u.keep _ _ h n).2 (u.imm _ _ x trivial) (RFs.mono u r)
  | _, _, .gl m => .gl m
  | _, _, .drw e => .drw (by
      rcases u.gh.1 with z | z
      · rw [z] at e; cases e
      · rw [z]; exact e)
  | _, _, .ty n => .ty n
  | _, _, .act h n k => .act (u.keep _ _ h n).1 (u.keep _ _ h n).2 (u.imm _ _ k (by unfold LamX.CodeO; trivial))
theorem RVs.mono (u : Up g B H g' B' H') : ∀ {ds : List D} {vs : List V}, RVs C g B H ds vs → RVs C g' B' H' ds vs
  | _, _, .nil => .nil
  | _, _, .cons h r => .cons (RV.mono u h) (RVs.mono u r)
theorem RFs.mono (u : Up g B H g' B' H') : ∀ {ds : List (Str × D)} {vs : List (Str × V)}, RFs C g B H ds vs → RFs C g' B' H' ds vs
  | _, _, .nil => .nil
  | _, _, .cons h r => .cons (RV.mono u h) (RFs.mono u r)
theorem RKs.mono (u : Up g B H g' B' H') : ∀ {ds : List (D × D)} {vs : List (Key × V)}, RKs C g B H ds vs → RKs C g' B' H' ds vs
  | _, _, .nil => .nil
  | _, _, .cons h r => .cons (RV.mono u h) (RKs.mono u r)
theorem RTs.mono (u : Up g B H g' B' H') : ∀ {ds : List (D × D)} {vs : List (List Key × V)}, RTs C g B H ds vs → RTs C g' B' H' ds vs
  | _, _, .nil => .nil
  | _, _, .cons h r => .cons (RV.mono u h) (RTs.mono u r)
end
theorem RVs.length : ∀ {ds : List D} {vs : List V}, RVs C g B H ds vs → ds.length = vs.length
  | _, _, .nil => rfl
  | _, _, .cons _ r => congrArg (· + 1) (RVs.length r)
theorem RVs.get : ∀ {ds : List D} {vs : List V} {i : Nat} {d : D}, RVs C g B H ds vs → ds[i]? = some d → ∃ v, vs[i]? = some v ∧ RV C g B H d v
  | _, _, _, _, .nil, e => by simp at e
  | _, _, 0, _, .cons h _, e => by
    simp at e
    subst e
    exact ⟨_, rfl, h⟩
  | _, _, i + 1, _, .cons _ r, e => by
    obtain ⟨v, h1, h2⟩ := RVs.get (i := i) r (by simpa using e)
    exact ⟨v, by simpa using h1, h2⟩
theorem RVs.getV : ∀ {ds : List D} {vs : List V} {i : Nat} {v : V}, RVs C g B H ds vs → vs[i]? = some v → ∃ d, ds[i]? = some d ∧ RV C g B H d v
  | _, _, _, _, .nil, e => by simp at e
  | _, _, 0, _, .cons h _, e => by
    simp at e
    subst e
    exact ⟨_, rfl, h⟩
  | _, _, i + 1, _, .cons _ r, e => by
    obtain ⟨v, h1, h2⟩ := RVs.getV (i := i) r (by simpa using e)
    exact ⟨v, by simpa using h1, h2⟩
theorem RVs.append : ∀ {ds es : List D} {vs us : List V}, RVs C g B H ds vs → RVs C g B H es us → RVs C g B H (ds ++ es) (vs ++ us)
  | _, _, _, _, .nil, s => s
  | _, _, _, _, .cons h r, s => .cons h (RVs.append r s)
theorem RVs.take : ∀ {ds : List D} {vs : List V} (n : Nat), RVs C g B H ds vs → RVs C g B H (ds.take n) (vs.take n)
  | _, _, 0, _ => .nil
  | _, _, _ + 1, .nil => .nil
  | _, _, n + 1, .cons h r => .cons h (RVs.take n r)
theorem RVs.drop : ∀ {ds : List D} {vs : List V} (n : Nat), RVs C g B H ds vs → RVs C g B H (ds.drop n) (vs.drop n)
  | _, _, 0, r => r
  | _, _, _ + 1, .nil => .nil
  | _, _, n + 1, .cons _ r => RVs.drop n r
theorem RVs.ints : ∀ (ns : List Int), RVs C g B H (ns.map D.int) (ns.map V.int)
  | [] => .nil
  | n :: ns => .cons (.int n) (RVs.ints ns)
theorem RVs.intsV : ∀ {ns : List Int} {vs : List V}, RVs C g B H (ns.map D.int) vs → vs = ns.map V.int
  | [], _, h => by cases h; rfl
  | n :: ns, _, h => by
    cases h with
    | cons h r =>
      cases h
      rw [RVs.intsV r]
      rfl
end

/-! ### the local store -/
inductive W where
  | d (x : D)
  | ref (i : Nat)
inductive O where
  | lst (ws : List W)
  | ins (c : Str) (fs : List (Str × W))
  | frz (x : D)
  | dK (kvs : List (Key × W))
  | dT (kvs : List (List Key × W))
def O.live : O → Bool
  | .frz _ => false
  | _ => true
abbrev MEnv := List (Option W)
abbrev Sto := List O
def Own (g : Gh) (ρ : List Addr) (S : Sto) (b : Addr) : Prop := DrA g b ∨ ∃ (i : Nat) (o : O), S[i]? = some o ∧ o.live = true ∧ ρ[i]? = some b
def Bad (g : Gh) (B0 : Addr → Prop) (ρ : List Addr) (S : Sto) (b : Addr) : Prop := B0 b ∨ Own g ρ S b
def RW (C : Cxt) (g : Gh) (B : Addr → Prop) (ρ : List Addr) (H : Hp) : W → V → Prop
  | .d x, v => RV C g B H x v
  | .ref i, v => ∃ a, ρ[i]? = some a ∧ v = .ref a
def OR (C : Cxt) (g : Gh) (B : Addr → Prop) (ρ : List Addr) (H : Hp) : O → Addr → Prop
  | .lst ws, a => ∃ vs, H a = some (.lst vs) ∧ Paired (RW C g B ρ H) ws vs
  | .ins c fs, a => ∃ (Ca dx : Addr) (fvs : List (Str × V)), C.mg c = some (.ref Ca) ∧ H a = some (.ins Ca dx fvs) ∧ H dx = some (.own a) ∧ Paired (fun (p : Str × W) (q : Str × V) => p.1 = q.1 ∧ RW C g B ρ H p.2 q.2) fs fvs
  | .frz x, a => RV C g B H x (.ref a)
  | .dK kvs, a => ∃ vs, H a = some (.dK vs) ∧ Paired (fun (p : Key × W) (q : Key × V) => p.1 = q.1 ∧ RW C g B ρ H p.2 q.2) kvs vs
  | .dT kvs, a => ∃ vs, H a = some (.dT vs) ∧ Paired (fun (p : List Key × W) (q : List Key × V) => p.1 = q.1 ∧ RW C g B ρ H p.2 q.2) kvs vs
structure Rel (C : Cxt) (g : Gh) (B0 : Addr → Prop) (ρ : List Addr) (S : Sto) (H : Hp) : Prop where
  len : ρ.length = S.length
  obj : ∀ (i : Nat) (o : O) (a : Addr), S[i]? = some o → ρ[i]? = some a → OR C g (Bad g B0 ρ S) ρ H o a
  inj : ∀ (i j : Nat) (o o' : O) (a : Addr), S[i]? = some o → S[j]? = some o' → o.live = true → o'.live = true → ρ[i]? = some a → ρ[j]? = some a → i = j
  out : ∀ (i : Nat) (o : O) (a : Addr), S[i]? = some o → o.live = true → ρ[i]? = some a → ¬ B0 a ∧ ¬ DrA g a
  b0 : ∀ a, B0 a → ∃ o, H a = some o
  dr : DrIs C g H
structure Ext (g : Gh) (B0 : Addr → Prop) (ρ : List Addr) (S : Sto) (H : Hp) (g' : Gh) (ρ' : List Addr) (S' : Sto) (H' : Hp) : Prop where
  imm : ∀ b o, H b = some o → Imm o → H' b = some o
  keep : ∀ b o, H b = some o → ¬ Own g ρ S b → H' b = some o
  own : ∀ b o, H b = some o → ¬ Own g ρ S b → ¬ Own g' ρ' S' b
  gh : GhLe g g'
  pre : ∃ t, ρ' = ρ ++ t
section
variable {C : Cxt} {g g' g1 g2 : Gh} {B0 : Addr → Prop} {ρ ρ' ρ1 ρ2 : List Addr} {S S' S1 S2 : Sto} {H H' H1 H2 : Hp}
theorem Ext.refl : Ext g B0 ρ S H g ρ S H := ⟨fun _ _ h _ => h, fun _ _ h _ => h, fun _ _ _ h => h, .refl, ⟨[], by simp⟩⟩
theorem Ext.trans (a : Ext g B0 ρ S H g1 ρ1 S1 H1) (b : Ext g1 B0 ρ1 S1 H1 g2 ρ2 S2 H2) : Ext g B0 ρ S H g2 ρ2 S2 H2 where
  imm := fun c o h i => b.imm c o (a.imm c o h i) i
  keep := fun c o h n => b.keep c o (a.keep c o h n) (a.own c o h n)
  own := fun c o h n => b.own c o (a.keep c o h n) (a.own c o h n)
  gh := a.gh.trans b.gh
  pre := by
    obtain ⟨t, e⟩ := a.pre
    obtain ⟨t', e'⟩ := b.pre
    exact ⟨t ++ t', by rw [e', e, List.append_assoc]⟩
theorem Ext.up (e : Ext g B0 ρ S H g' ρ' S' H') : Up g (Bad g B0 ρ S) H g' (Bad g' B0 ρ' S') H' where
  imm := e.imm
  keep := fun b o h n => ⟨e.keep b o h fun z => n (.inr z), fun z => z.elim (fun z => n (.inl z)) (e.own b o h fun z => n (.inr z))⟩
  gh := e.gh
theorem Up.weak {B B' : Addr → Prop} (h : ∀ b, B' b → B b) : Up g B H g B' H := ⟨fun _ _ h _ => h, fun b _ e n => ⟨e, fun z => n (h b z)⟩, .refl⟩
theorem Own.nil {b : Addr} : Own g [] [] b ↔ DrA g b := by
  constructor
  · rintro (h | ⟨i, o, h, _⟩)
    · exact h
    · simp at h
  · exact .inl
theorem RW.mono {B B' : Addr → Prop} (u : Up g B H g' B' H') (p : ∃ t, ρ' = ρ ++ t) : ∀ {w : W} {v : V}, RW C g B ρ H w v → RW C g' B' ρ' H' w v
  | .d x, v, h => RV.mono u h
  | .ref i, v, ⟨a, h, e⟩ => by
    obtain ⟨t, rfl⟩ := p
    exact ⟨a, by rw [List.getElem?_append_left (List.getElem?_eq_some_iff.mp h).1]; exact h, e⟩
theorem RW.ext (e : Ext g B0 ρ S H g' ρ' S' H') {w : W} {v : V} (h : RW C g (Bad g B0 ρ S) ρ H w v) : RW C g' (Bad g' B0 ρ' S') ρ' H' w v := h.mono e.up e.pre
theorem Rel.badSome (R : Rel C g B0 ρ S H) {b : Addr} (h : Bad g B0 ρ S b) : ∃ o, H b = some o := by
  rcases h with h | h | ⟨i, o, h1, h2, h3⟩
  · exact R.b0 b h
  · exact R.dr.there h
  · have q := R.obj i o b h1 h3
    cases o with
    | lst ws => obtain ⟨vs, e, _⟩ := q; exact ⟨_, e⟩
    | ins c fs => obtain ⟨_, _, _, _, e, _⟩ := q; exact ⟨_, e⟩
    | frz x => exact absurd h2 (by simp [O.live])
    | dK kvs => obtain ⟨vs, e, _⟩ := q; exact ⟨_, e⟩
    | dT kvs => obtain ⟨vs, e, _⟩ := q; exact ⟨_, e⟩
theorem Rel.newBad (R : Rel C g B0 ρ S H) {p : Addr} (h : H p = none) : ¬ Bad g B0 ρ S p := fun z => by
  obtain ⟨o, e⟩ := R.badSome z
  rw [h] at e
  cases e
theorem OR.mono {B B' : Addr → Prop} (u : Up g B H g' B' H') (p : ∃ t, ρ' = ρ ++ t) {o : O} {a : Addr} (hk : ∀ u, H a = some u → o.live = true → H' a = some u) (h : OR C g B ρ H o a) : OR C g' B' ρ' H' o a := by
  cases o with
  | lst ws =>
    obtain ⟨vs, e, r⟩ := h
    exact ⟨vs, hk _ e rfl, Paired.mapP r fun _ _ q => q.mono u p⟩
  | ins c fs =>
    obtain ⟨Ca, dx, fvs, m, e, o, r⟩ := h
    exact ⟨Ca, dx, fvs, m, hk _ e rfl, u.imm _ _ o trivial, Paired.mapP r fun _ _ q => ⟨q.1, q.2.mono u p⟩⟩
  | frz x => exact RV.mono u h
  | dK kvs =>
    obtain ⟨vs, e, r⟩ := h
    exact ⟨vs, hk _ e rfl, Paired.mapP r fun _ _ q => ⟨q.1, q.2.mono u p⟩⟩
  | dT kvs =>
    obtain ⟨vs, e, r⟩ := h
    exact ⟨vs, hk _ e rfl, Paired.mapP r fun _ _ q => ⟨q.1, q.2.mono u p⟩⟩
theorem DrIs.keep (h : DrIs C g H) (k : ∀ b o, DrA g b ∨ Imm o → H b = some o → H' b = some o) : DrIs C g H' := by
  refine ⟨?_, fun p hp => ?_, h.2.2⟩
  · obtain ⟨d, T⟩ := g
    match d, h.1, k with
    | none, _, _ => trivial
    | some (a, l, c), ⟨n1, n2, n3, L, N, r, t, h1, h2, h3, h4⟩, k => exact ⟨n1, n2, n3, L, N, r, t, k _ _ (.inl (.inl (.inl rfl))) h1, k _ _ (.inl (.inl (.inr (.inl rfl)))) h2, k _ _ (.inl (.inl (.inr (.inr rfl)))) h3, h4⟩
  · obtain ⟨qs, h1, h2, h3⟩ := h.2.1 p hp
    refine ⟨qs, k _ _ (.inl (.inr ⟨p, hp, rfl⟩)) h1, h2, fun pos cv hc => ?_⟩
    obtain ⟨c, e1, e2⟩ := h3 pos cv hc
    exact ⟨c, e1, k _ _ (.inr (by unfold LamX.CodeO; trivial)) e2⟩
/-- a new object that the store does not hold -/
theorem Rel.new (R : Rel C g B0 ρ S H) {p : Addr} {o : HO} (h : H p = none) : Rel C g B0 ρ S (upd H p o) ∧ Ext g B0 ρ S H g ρ S (upd H p o) ∧ ¬ Bad g B0 ρ S p := by
  have k : ∀ b u, H b = some u → upd H p o b = some u := fun b u e => by rw [upd_ne (ne_of_none e h)]; exact e
  have E : Ext g B0 ρ S H g ρ S (upd H p o) := ⟨fun b u e _ => k b u e, fun b u e _ => k b u e, fun _ _ _ n => n, .refl, ⟨[], by simp⟩⟩
  exact ⟨⟨R.len, fun i u a h1 h2 => (R.obj i u a h1 h2).mono E.up ⟨[], by simp⟩ fun u e _ => k _ _ e, R.inj, R.out, fun a z => let ⟨u, e⟩ := R.b0 a z; ⟨u, k _ _ e⟩, R.dr.keep fun b u _ e => k b u e⟩, E, R.newBad h⟩
/-- a new object that the store holds -/
theorem Rel.push (R : Rel C g B0 ρ S H) {p : Addr} {u : HO} {o : O} (h : H p = none) (hl : o.live = true) (ho : ∀ B, (∀ b, Bad g B0 ρ S b ∨ b = p → B b) → (∀ b, B b → Bad g B0 ρ S b ∨ b = p) → OR C g B (ρ ++ [p]) (upd H p u) o p) :
    Rel C g B0 (ρ ++ [p]) (S ++ [o]) (upd H p u) ∧ Ext g B0 ρ S H g (ρ ++ [p]) (S ++ [o]) (upd H p u) := by
  have k : ∀ b v, H b = some v → upd H p u b = some v := fun b v e => by rw [upd_ne (ne_of_none e h)]; exact e
  have nb := R.newBad h
  have gS : ∀ {i : Nat} {x : O}, (S ++ [o])[i]? = some x → (i < S.length ∧ S[i]? = some x) ∨ (i = S.length ∧ x = o) := fun {i x} e => by
    by_cases hi : i < S.length
    · rw [List.getElem?_append_left hi] at e
      exact .inl ⟨hi, e⟩
    · rw [List.getElem?_append_right (by omega)] at e
      have : i - S.length = 0 := by
        have := (List.getElem?_eq_some_iff.mp e).1
        simp at this
        omega
      rw [this] at e
      exact .inr ⟨by omega, by simpa using e.symm⟩
  have gR : ∀ {i : Nat} {a : Addr}, i < S.length → ((ρ ++ [p])[i]? = some a ↔ ρ[i]? = some a) := fun {i a} hi => by rw [List.getElem?_append_left (by rw [R.len]; exact hi)]
  have gP : ∀ {a : Addr}, (ρ ++ [p])[S.length]? = some a → a = p := fun {a} e => by
    rw [← R.len, List.getElem?_append_right (Nat.le_refl _), Nat.sub_self] at e
    simpa using e.symm
  have ownI : ∀ b, Own g (ρ ++ [p]) (S ++ [o]) b → Own g ρ S b ∨ b = p := fun b z => by
    rcases z with z | ⟨i, x, h1, h2, h3⟩
    · exact .inl (.inl z)
    · rcases gS h1 with ⟨hi, e⟩ | ⟨rfl, rfl⟩
      · exact .inl (.inr ⟨i, x, e, h2, (gR hi).mp h3⟩)
      · exact .inr (gP h3)
  have ownJ : ∀ b, Own g ρ S b ∨ b = p → Own g (ρ ++ [p]) (S ++ [o]) b := fun b z => by
    rcases z with (z | ⟨i, x, h1, h2, h3⟩) | rfl
    · exact .inl z
    · have hi := (List.getElem?_eq_some_iff.mp h1).1
      exact .inr ⟨i, x, by rw [List.getElem?_append_left hi]; exact h1, h2, (gR hi).mpr h3⟩
    · exact .inr ⟨S.length, o, by simp, hl, by rw [← R.len]; simp⟩
  have E : Ext g B0 ρ S H g (ρ ++ [p]) (S ++ [o]) (upd H p u) := ⟨fun b v e _ => k b v e, fun b v e _ => k b v e, fun b v e n z => (ownI b z).elim n (fun q => ne_of_none e h q), .refl, ⟨[p], rfl⟩⟩
  refine ⟨⟨by rw [List.length_append, List.length_append, R.len]; rfl, fun i x a h1 h2 => ?_, fun i j x y a h1 h2 h3 h4 h5 h6 => ?_, fun i x a h1 h2 h3 => ?_, fun a z => let ⟨v, e⟩ := R.b0 a z; ⟨v, k _ _ e⟩, R.dr.keep fun b v _ e => k b v e⟩, E⟩
  · rcases gS h1 with ⟨hi, e⟩ | ⟨rfl, rfl⟩
    · exact (R.obj i x a e ((gR hi).mp h2)).mono E.up ⟨[p], rfl⟩ fun v q _ => k _ _ q
    · rw [gP h2]
      refine ho _ (fun b z => ?_) fun b z => ?_
      · rcases z with (z | z) | z
        · exact .inl z
        · exact .inr (ownJ b (.inl z))
        · exact .inr (ownJ b (.inr z))
      · rcases z with z | z
        · exact .inl (.inl z)
        · rcases ownI b z with z | z
          · exact .inl (.inr z)
          · exact .inr z
  · rcases gS h1 with ⟨hi, e⟩ | ⟨rfl, rfl⟩ <;> rcases gS h2 with ⟨hj, e'⟩ | ⟨rfl, rfl⟩
    · exact R.inj i j x y a e e' h3 h4 ((gR hi).mp h5) ((gR hj).mp h6)
    · have := gP h6
      subst this
      exact absurd (.inr (.inr ⟨i, x, e, h3, (gR hi).mp h5⟩)) nb
    · have := gP h5
      subst this
      exact absurd (.inr (.inr ⟨j, y, e', h4, (gR hj).mp h6⟩)) nb
    · rfl
  · rcases gS h1 with ⟨hi, e⟩ | ⟨rfl, rfl⟩
    · exact R.out i x a e h2 ((gR hi).mp h3)
    · rw [gP h3]
      exact ⟨fun z => nb (.inl z), fun z => nb (.inr (.inl z))⟩
/-- an object of the store is written -/
theorem Rel.write (R : Rel C g B0 ρ S H) {i : Nat} {a : Addr} {u u0 : HO} {o o0 : O} (hi : S[i]? = some o0) (hl0 : o0.live = true) (ha : ρ[i]? = some a) (hl : o.live = true) (h0 : H a = some u0) (nI : ¬ Imm u0)
    (ho : OR C g (Bad g B0 ρ S) ρ (upd H a u) o a) : Rel C g B0 ρ (S.set i o) (upd H a u) ∧ Ext g B0 ρ S H g ρ (S.set i o) (upd H a u) := by
  have hiL := (List.getElem?_eq_some_iff.mp hi).1
  have k : ∀ b v, H b = some v → b ≠ a → upd H a u b = some v := fun b v e n => by rw [upd_ne n]; exact e
  have gS : ∀ {j : Nat} {x : O}, (S.set i o)[j]? = some x → (j ≠ i ∧ S[j]? = some x) ∨ (j = i ∧ x = o) := fun {j x} e => by
    by_cases hj : j = i
    · subst hj
      rw [List.getElem?_set_self hiL] at e
      exact .inr ⟨rfl, (Option.some.inj e).symm⟩
    · rw [List.getElem?_set_ne (Ne.symm hj)] at e
      exact .inl ⟨hj, e⟩
  have ownE : ∀ b, Own g ρ (S.set i o) b ↔ Own g ρ S b := fun b => by
    constructor
    · rintro (z | ⟨j, x, h1, h2, h3⟩)
      · exact .inl z
      · rcases gS h1 with ⟨_, e⟩ | ⟨rfl, rfl⟩
        · exact .inr ⟨j, x, e, h2, h3⟩
        · exact .inr ⟨j, o0, hi, hl0, h3⟩
    · rintro (z | ⟨j, x, h1, h2, h3⟩)
      · exact .inl z
      · by_cases hj : j = i
        · subst hj
          exact .inr ⟨j, o, List.getElem?_set_self hiL, hl, h3⟩
        · exact .inr ⟨j, x, by rw [List.getElem?_set_ne (Ne.symm hj)]; exact h1, h2, h3⟩
  have badE : Bad g B0 ρ (S.set i o) = Bad g B0 ρ S := by
    funext b
    unfold Bad
    rw [show Own g ρ (S.set i o) b = Own g ρ S b from propext (ownE b)]
  have ownA : Own g ρ S a := .inr ⟨i, o0, hi, hl0, ha⟩
  have E : Ext g B0 ρ S H g ρ (S.set i o) (upd H a u) := ⟨fun b v e im => k b v e fun z => by rw [z, h0] at e; cases e; exact nI im, fun b v e n => k b v e fun z => n (z ▸ ownA), fun b v e n z => n ((ownE b).mp z), .refl, ⟨[], by simp⟩⟩
  have nd : ∀ b, DrA g b → b ≠ a := fun b z q => (R.out i o0 a hi hl0 ha).2 (q ▸ z)
  refine ⟨⟨by rw [List.length_set]; exact R.len, fun j x b h1 h2 => ?_, fun j l x y b h1 h2 h3 h4 h5 h6 => ?_, fun j x b h1 h2 h3 => ?_, fun b z => ?_, R.dr.keep fun b v z e => k b v e (z.elim (nd b) fun im q => by rw [q, h0] at e; cases e; exact nI im)⟩, E⟩
  · rcases gS h1 with ⟨hj, e⟩ | ⟨rfl, rfl⟩
    · rw [badE]
      have q := R.obj j x b e h2
      refine q.mono ⟨E.imm, fun c v ec n => ⟨E.keep c v ec fun z => n (.inr z), n⟩, .refl⟩ ⟨[], by simp⟩ fun v ev lv => k b v ev fun z => hj (R.inj j i x o0 b e hi lv hl0 h2 (z ▸ ha))
    · rw [badE]
      rw [ha] at h2
      cases h2
      exact ho
  · have c : ∀ {j : Nat} {x : O}, (S.set i o)[j]? = some x → x.live = true → ∃ x', S[j]? = some x' ∧ x'.live = true := fun {j x} e lx => by
      rcases gS e with ⟨_, e⟩ | ⟨rfl, rfl⟩
      · exact ⟨x, e, lx⟩
      · exact ⟨o0, hi, hl0⟩
    obtain ⟨x', e1, l1⟩ := c h1 h3
    obtain ⟨y', e2, l2⟩ := c h2 h4
    exact R.inj j l x' y' b e1 e2 l1 l2 h5 h6
  · rcases gS h1 with ⟨_, e⟩ | ⟨rfl, rfl⟩
    · exact R.out j x b e h2 h3
    · exact R.out j o0 b hi hl0 h3
  · obtain ⟨v, e⟩ := R.b0 b z
    by_cases hb : b = a
    · exact ⟨u, by rw [hb, upd_same]⟩
    · exact ⟨v, k b v e hb⟩
end
end RW
/-! RwRules: the mirrors' judgements; names, constants, operators, tests, displays, statements, loops. -/
namespace RW
open PySem PySem.Spec PyProof.Rows L2
/-- the tables of code objects that the run writes -/
class Tbl where
  tabs : List (Addr × Str)
variable [Tbl]

abbrev MX := MEnv → Sto → (W → Sto → Prop) → (D → Prop) → Prop
abbrev MT := MEnv → Sto → (Bool → Sto → Prop) → (D → Prop) → Prop
abbrev MA := MEnv → Sto → (List W → Sto → Prop) → (D → Prop) → Prop
structure MEnds where
  nx : MEnv → Sto → Prop
  rt : D → Prop
  bk : MEnv → Sto → Prop
  ct : MEnv → Sto → Prop
  ex : D → Prop
structure MEnds.Le (K K' : MEnds) : Prop where
  nx : ∀ e S, K.nx e S → K'.nx e S
  rt : ∀ x, K.rt x → K'.rt x
  bk : ∀ e S, K.bk e S → K'.bk e S
  ct : ∀ e S, K.ct e S → K'.ct e S
  ex : ∀ x, K.ex x → K'.ex x
abbrev MS := MEnds → MEnv → Sto → Prop
def MonoX (m : MX) : Prop := ∀ env S Q Q' E E', (∀ w S', Q w S' → Q' w S') → (∀ x, E x → E' x) → m env S Q E → m env S Q' E'
def MonoT (m : MT) : Prop := ∀ env S Q Q' E E', (∀ w S', Q w S' → Q' w S') → (∀ x, E x → E' x) → m env S Q E → m env S Q' E'
def MonoA (m : MA) : Prop := ∀ env S Q Q' E E', (∀ w S', Q w S' → Q' w S') → (∀ x, E x → E' x) → m env S Q E → m env S Q' E'
def MonoS (m : MS) : Prop := ∀ K K' env S, MEnds.Le K K' → m K env S → m K' env S

abbrev ctx (X : Cx) : Cxt := ⟨X.K, X.mg, Tbl.tabs⟩
/-- an exception that leaves: its class and its own dict -/
inductive RX (C : Cxt) (g : Gh) (B : Addr → Prop) (H : Hp) : D → Value → Option Addr → Prop
  | exc0 {c : Str} {Ca : Addr} : C.mg c = some (.ref Ca) → RX C g B H (.exc c []) (.ref Ca) none
  | exc1 {c : Str} {Ca dd : Addr} {fvs : List (Str × V)} {fs : List (Str × D)} : C.mg c = some (.ref Ca) → H dd = some (.xd fvs) → RFs C g B H fs fvs → RX C g B H (.exc c fs) (.ref Ca) (some dd)
structure XExt (g : Gh) (ρ : List Addr) (S : Sto) (H : Hp) (g' : Gh) (H' : Hp) : Prop where
  imm : ∀ b o, H b = some o → Imm o → H' b = some o
  keep : ∀ b o, H b = some o → ¬ Own g ρ S b → H' b = some o
  own : ∀ b o, H b = some o → ¬ Own g ρ S b → ¬ DrA g' b
  gh : GhLe g g'
def XPost (C : Cxt) (E : XK) (g : Gh) (B0 : Addr → Prop) (ρ : List Addr) (S : Sto) (H : Hp) (x : D) : Prop :=
  ∀ g' H' cls d, Rel C g' B0 [] [] H' → XExt g ρ S H g' H' → RX C g' (Bad g' B0 [] []) H' x cls d → E cls d H'
def EnvR (C : Cxt) (g : Gh) (B : Addr → Prop) (ρ : List Addr) (H : Hp) (env : MEnv) (σ : L2.St) : Prop := env.length = σ.length ∧ ∀ (i : Nat) (w : W), env[i]? = some (some w) → ∃ v, σ[i]? = some (some v) ∧ RW C g B ρ H w v
section
variable {C : Cxt} {E : XK} {g g' g1 g2 : Gh} {B0 : Addr → Prop} {ρ ρ' ρ1 : List Addr} {S S' S1 : Sto} {H H' H1 : Hp} {env : MEnv} {σ : L2.St}
theorem EnvR.ext (e : Ext g B0 ρ S H g' ρ' S' H') (h : EnvR C g (Bad g B0 ρ S) ρ H env σ) : EnvR C g' (Bad g' B0 ρ' S') ρ' H' env σ := ⟨h.1, fun i w hw => let ⟨v, a, b⟩ := h.2 i w hw; ⟨v, a, b.ext e⟩⟩
theorem EnvR.set (h : EnvR C g (Bad g B0 ρ S) ρ H env σ) (i : Nat) {w : W} {v : V} (r : RW C g (Bad g B0 ρ S) ρ H w v) : EnvR C g (Bad g B0 ρ S) ρ H (env.set i (some w)) (σ.set i (some v)) := by
  refine ⟨by rw [List.length_set, List.length_set]; exact h.1, fun j u hu => ?_⟩
  by_cases hj : i = j
  · subst hj
    have hl : i < env.length := by
      have := (List.getElem?_eq_some_iff.mp hu).1
      rwa [List.length_set] at this
    rw [List.getElem?_set_self hl] at hu
    cases hu
    exact ⟨v, List.getElem?_set_self (by rw [← h.1]; exact hl), r⟩
  · rw [List.getElem?_set_ne hj] at hu
    obtain ⟨z, a, b⟩ := h.2 j u hu
    exact ⟨z, by rw [List.getElem?_set_ne hj]; exact a, b⟩
theorem EnvR.unset (h : EnvR C g (Bad g B0 ρ S) ρ H env σ) (i : Nat) (o : Option V) : EnvR C g (Bad g B0 ρ S) ρ H (env.set i none) (σ.set i o) := by
  refine ⟨by rw [List.length_set, List.length_set]; exact h.1, fun j u hu => ?_⟩
  by_cases hj : i = j
  · subst hj
    by_cases hl : i < env.length
    · rw [List.getElem?_set_self hl] at hu; cases hu
    · rw [List.getElem?_eq_none (by rw [List.length_set]; omega)] at hu; cases hu
  · rw [List.getElem?_set_ne hj] at hu
    obtain ⟨z, a, b⟩ := h.2 j u hu
    exact ⟨z, by rw [List.getElem?_set_ne hj]; exact a, b⟩
theorem XPost.ext (e : Ext g B0 ρ S H g1 ρ1 S1 H1) {x : D} (h : XPost C E g B0 ρ S H x) : XPost C E g1 B0 ρ1 S1 H1 x := fun g' H' cls d R x r => h g' H' cls d R
  ⟨fun b o a i => x.imm b o (e.imm b o a i) i, fun b o a n => x.keep b o (e.keep b o a n) (e.own b o a n), fun b o a n => x.own b o (e.keep b o a n) (e.own b o a n), e.gh.trans x.gh⟩ r
end
/-- what a mirror's normal end gives back -/
abbrev OkP (C : Cxt) (g : Gh) (B0 : Addr → Prop) (ρ : List Addr) (S : Sto) (H : Hp) (Q : VK) : W → Sto → Prop := fun w S' => ∀ g' ρ' H' v, Rel C g' B0 ρ' S' H' → Ext g B0 ρ S H g' ρ' S' H' → RW C g' (Bad g' B0 ρ' S') ρ' H' w v → Q v H'
def tM (C : Cxt) (E : XK) (m : MX) : TE := fun σ H Q => ∃ g B0 ρ env S, Rel C g B0 ρ S H ∧ EnvR C g (Bad g B0 ρ S) ρ H env σ ∧ m env S (OkP C g B0 ρ S H Q) (XPost C E g B0 ρ S H)
def tMT (C : Cxt) (E : XK) (m : MT) : TT := fun σ H Q => ∃ g B0 ρ env S, Rel C g B0 ρ S H ∧ EnvR C g (Bad g B0 ρ S) ρ H env σ ∧
  m env S (fun b S' => ∀ g' ρ' H', Rel C g' B0 ρ' S' H' → Ext g B0 ρ S H g' ρ' S' H' → Q b H') (XPost C E g B0 ρ S H)
def tMA (C : Cxt) (E : XK) (m : MA) : TA := fun σ H Q => ∃ g B0 ρ env S, Rel C g B0 ρ S H ∧ EnvR C g (Bad g B0 ρ S) ρ H env σ ∧
  m env S (fun ws S' => ∀ g' ρ' H' vs, Rel C g' B0 ρ' S' H' → Ext g B0 ρ S H g' ρ' S' H' → Paired (RW C g' (Bad g' B0 ρ' S') ρ' H') ws vs → Q vs H') (XPost C E g B0 ρ S H)
abbrev StP (C : Cxt) (g : Gh) (B0 : Addr → Prop) (ρ : List Addr) (S : Sto) (H : Hp) (N : L2.St → Hp → Prop) : MEnv → Sto → Prop := fun env' S' => ∀ g' ρ' H' σ', Rel C g' B0 ρ' S' H' → Ext g B0 ρ S H g' ρ' S' H' → EnvR C g' (Bad g' B0 ρ' S') ρ' H' env' σ' → N σ' H'
def endsOf (C : Cxt) (E : XK) (g : Gh) (B0 : Addr → Prop) (ρ : List Addr) (S : Sto) (H : Hp) (D' : Ends) : MEnds where
  nx := StP C g B0 ρ S H D'.nx
  rt := fun x => ∀ g' ρ' S' H' v, Rel C g' B0 ρ' S' H' → Ext g B0 ρ S H g' ρ' S' H' → RV C g' (Bad g' B0 [] []) H' x v → D'.rt v H'
  bk := StP C g B0 ρ S H D'.bk
  ct := StP C g B0 ρ S H D'.ct
  ex := XPost C E g B0 ρ S H
def tMS (C : Cxt) (E : XK) (m : MS) : TS := fun D' σ H => ∃ g B0 ρ env S, Rel C g B0 ρ S H ∧ EnvR C g (Bad g B0 ρ S) ρ H env σ ∧ m (endsOf C E g B0 ρ S H D') env S
structure ME (E : XK) (X : Cx) (e : Expr) (m : MX) : Prop where
  pe : PE X e (tM (ctx X) E m)
  mono : MonoX m
structure MTJ (E : XK) (X : Cx) (e : Expr) (m : MT) : Prop where
  pt : PT X e (tMT (ctx X) E m)
  mono : MonoT m
structure MAJ (E : XK) (X : Cx) (es : List Expr) (m : MA) : Prop where
  pa : PA X es (tMA (ctx X) E m)
  mono : MonoA m
  len : ∀ env S Q E, m env S Q E → m env S (fun ws S' => ws.length = es.length ∧ Q ws S') E
structure MSJ (E : XK) (X : Cx) (s : Stmt) (m : MS) : Prop where
  ps : PS X s (tMS (ctx X) E m)
  mono : MonoS m
structure MSs (E : XK) (X : Cx) (s : List Stmt) (m : MS) : Prop where
  ps : PSs X s (tMS (ctx X) E m)
  mono : MonoS m

theorem PE.imp {X : Cx} {e : Expr} {t t' : TE} (h : PE X e t) (i : ∀ σ H Q, t' σ H Q → t σ H Q) : PE X e t' := ⟨fun pins s σ H Q I q => h.run pins s σ H Q I (i σ H Q q)⟩
theorem PT.imp {X : Cx} {e : Expr} {t t' : TT} (h : PT X e t) (i : ∀ σ H Q, t' σ H Q → t σ H Q) : PT X e t' := ⟨fun pins s σ H Q I q => h.run pins s σ H Q I (i σ H Q q)⟩
theorem PW.imp {X : Cx} {e : Expr} {t t' : TT} (h : PW X e t) (i : ∀ σ H Q, t' σ H Q → t σ H Q) : PW X e t' := ⟨fun wh pins s σ H Q I q => h.run wh pins s σ H Q I (i σ H Q q)⟩
theorem PA.imp {X : Cx} {e : List Expr} {t t' : TA} (h : PA X e t) (i : ∀ σ H Q, t' σ H Q → t σ H Q) : PA X e t' := ⟨fun pos pins s σ H Q I q => h.run pos pins s σ H Q I (i σ H Q q)⟩
theorem PS.imp {X : Cx} {e : Stmt} {t t' : TS} (h : PS X e t) (i : ∀ D σ H, t' D σ H → t D σ H) : PS X e t' := ⟨fun pins s σ H D I q => h.run pins s σ H D I (i D σ H q)⟩
theorem PSs.imp {X : Cx} {e : List Stmt} {t t' : TS} (h : PSs X e t) (i : ∀ D σ H, t' D σ H → t D σ H) : PSs X e t' := ⟨fun pins s σ H D I q => h.run pins s σ H D I (i D σ H q)⟩

section
variable {C : Cxt} {E : XK} {g g1 : Gh} {B0 : Addr → Prop} {ρ ρ1 : List Addr} {S S1 : Sto} {H H1 : Hp} {env : MEnv} {σ : L2.St}
/-- going on from a middle state -/
theorem tM.go {m : MX} {Q : VK} {P : W → Sto → Prop} {Ex : D → Prop} (mo : MonoX m) (R : Rel C g B0 ρ S H) (N : EnvR C g (Bad g B0 ρ S) ρ H env σ) (h : m env S P Ex) (hx : ∀ x, Ex x → XPost C E g B0 ρ S H x)
    (k : ∀ w S', P w S' → OkP C g B0 ρ S H Q w S') : tM C E m σ H Q := ⟨g, B0, ρ, env, S, R, N, mo _ _ _ _ _ _ k hx h⟩
end

/-! ### names, constants -/
def mVar (i : Nat) : MX := fun env S Q _ => ∃ w, env[i]? = some (some w) ∧ Q w S
def mD (d : D) : MX := fun _ S Q _ => Q (.d d) S
section
variable {E : XK} {X : Cx}
theorem me_var {i : Nat} {x : Str} {pos : Pos} (hN : X.N[i]? = some x := by rfl) (hv : Vis X.env.scope x := by first | exact Or.inl rfl | exact Or.inr (Or.inl rfl) | exact Or.inr (Or.inr rfl)) (hd : (x == ("__debug__" : Str)) = false := by decide)
    (hcd : (x == ("__classdict__" : Str)) = false := by decide) : ME E X (.Name x pos) (mVar i) :=
  ⟨PE.imp (pe_var (i := i) hN hv hd hcd) fun σ H Q ⟨g, B0, ρ, env, S, R, N, w, hw, q⟩ => let ⟨v, hv, r⟩ := N.2 i w hw; ⟨v, hv, q g ρ H v R Ext.refl r⟩,
   fun _ _ _ _ _ _ h _ ⟨w, a, b⟩ => ⟨w, a, h _ _ b⟩⟩
theorem me_const {e : Expr} {v : V} {d : D} (h : PE X e (tC v)) (r : ∀ C g B H, RV C g B H d v) : ME E X e (mD d) :=
  ⟨PE.imp h fun σ H Q ⟨g, B0, ρ, env, S, R, N, q⟩ => q g ρ H v R Ext.refl (r _ _ _ _), fun _ _ _ _ _ _ h _ q => h _ _ q⟩
theorem me_int {i j pos} : ME E X (.Constant (.int i) j pos) (mD (.int i)) := me_const pe_int fun _ _ _ _ => .int i
theorem me_bl {b j pos} : ME E X (.Constant (.bool b) j pos) (mD (.bl b)) := me_const pe_bl fun _ _ _ _ => .bl b
theorem me_non {j pos} : ME E X (.Constant .none j pos) (mD .non) := me_const pe_non fun _ _ _ _ => .non
theorem me_str {x j pos} : ME E X (.Constant (.str x) j pos) (mD (.str x)) := me_const pe_str fun _ _ _ _ => .str x
/-- a module's constant: an int, a text -/
theorem me_globI {x : Str} {i : Int} {t : Tok} {pos : Pos} (hm : X.mg x = some (.int i t)) (hg : Gl X x := by rfl) (hd : (x == ("__debug__" : Str)) = false := by decide) : ME E X (.Name x pos) (mD (.int i)) :=
  me_const (v := .int i) (pe_glob hg hm ⟨t, rfl⟩ hd) fun _ _ _ _ => .int i
theorem me_globS {x : Str} {i : Str} {t : Tok} {pos : Pos} (hm : X.mg x = some (.str i t)) (hg : Gl X x := by rfl) (hd : (x == ("__debug__" : Str)) = false := by decide) : ME E X (.Name x pos) (mD (.str i)) :=
  me_const (v := .str i) (pe_glob hg hm ⟨t, rfl⟩ hd) fun _ _ _ _ => .str i
/-- a global def or class as a value -/
theorem me_globF {x : Str} {a : Addr} {pos : Pos} (hm : X.mg x = some (.ref a)) (hg : Gl X x := by rfl) (hd : (x == ("__debug__" : Str)) = false := by decide) : ME E X (.Name x pos) (mD (.gl x)) :=
  ⟨PE.imp (pe_glob (v := .ref a) hg hm rfl hd) fun σ H Q ⟨g, B0, ρ, env, S, R, N, q⟩ => q g ρ H _ R Ext.refl (.gl hm), fun _ _ _ _ _ _ h _ q => h _ _ q⟩
end

/-! ### operators by values -/
abbrev MO := Sto → W → W → (D → Prop) → Prop
def OpS (C : Cxt) (r : R2) (o : MO) : Prop := ∀ g B0 ρ S H x y w1 w2 P Q, Rel C g B0 ρ S H → RW C g (Bad g B0 ρ S) ρ H w1 x → RW C g (Bad g B0 ρ S) ρ H w2 y → o S w1 w2 P →
  (∀ H' z dz, Rel C g B0 ρ S H' → Ext g B0 ρ S H g ρ S H' → RV C g (Bad g B0 ρ S) H' dz z → P dz → Q z H') → r x y H Q
structure OpM (X : Cx) (f : Value → Value → Sem Value) (o : MO) : Prop where
  ex : ∃ r, OpR X f r ∧ OpS (ctx X) r o
  mono : ∀ S w1 w2 P P', (∀ d, P d → P' d) → o S w1 w2 P → o S w1 w2 P'
def mBin (o : MO) (ma mb : MX) : MX := fun env S Q E => ma env S (fun w1 S1 => mb env S1 (fun w2 S2 => o S2 w1 w2 fun d => Q (.d d) S2) E) E
theorem mono_bin {o : MO} {ma mb : MX} (ho : ∀ S w1 w2 P P', (∀ d, P d → P' d) → o S w1 w2 P → o S w1 w2 P') (ha : MonoX ma) (hb : MonoX mb) : MonoX (mBin o ma mb) := fun env S Q Q' E E' h hx q =>
  ha _ _ _ _ _ _ (fun w1 S1 q1 => hb _ _ _ _ _ _ (fun w2 S2 q2 => ho _ _ _ _ _ (fun d q3 => h _ _ q3) q2) hx q1) hx q
section
variable {E : XK} {X : Cx} {a b c : Expr} {ma mb mc : MX} {pos : Pos}
/-- two operands, then something by their values -/
theorem bin_go {o : MO} {r : R2} (hs : OpS (ctx X) r o) (ho : ∀ S w1 w2 P P', (∀ d, P d → P' d) → o S w1 w2 P → o S w1 w2 P') (ha : ME E X a ma) (hb : ME E X b mb) (σ : L2.St) (H : Hp) (Q : VK) (h : tM (ctx X) E (mBin o ma mb) σ H Q) :
    tOp r (tM (ctx X) E ma) (tM (ctx X) E mb) σ H Q := by
  obtain ⟨g, B0, ρ, env, S, R, N, q⟩ := h
  refine tM.go ha.mono R N q (fun _ z => z) fun w1 S1 q1 g1 ρ1 H1 v1 R1 e1 r1 => ?_
  refine tM.go hb.mono R1 (N.ext e1) q1 (fun x z => z.ext e1) fun w2 S2 q2 g2 ρ2 H2 v2 R2 e2 r2 => ?_
  refine hs _ _ _ _ _ _ _ _ _ _ _ R2 (r1.ext e2) r2 q2 fun H3 z dz R3 e3 r3 p => ?_
  exact p g2 ρ2 H3 z R3 ((e1.trans e2).trans e3) r3
theorem me_bin {op : Operator} {o : MO} (ho : OpM X (binaryOp op) o) (ha : ME E X a ma) (hb : ME E X b mb) : ME E X (.BinOp a op b pos) (mBin o ma mb) := by
  obtain ⟨r, h1, h2⟩ := ho.ex
  exact ⟨PE.imp (pe_op h1 ha.pe hb.pe) (bin_go h2 ho.mono ha hb), mono_bin ho.mono ha.mono hb.mono⟩
theorem me_cmp {op : CmpOp} {o : MO} (ho : OpM X (compareOp op) o) (ha : ME E X a ma) (hb : ME E X b mb) (hm : behindInMarks op b = false := by first | exact nomark _ | rfl) : ME E X (.Compare a [op] [b] pos) (mBin o ma mb) := by
  obtain ⟨r, h1, h2⟩ := ho.ex
  exact ⟨PE.imp (pe_cmpR h1 ha.pe hb.pe hm) (bin_go h2 ho.mono ha hb), mono_bin ho.mono ha.mono hb.mono⟩
/-- an expression that must be a bool, as a test -/
def mB (m : MX) : MT := fun env S Q E => m env S (fun w S' => ∃ k, w = .d (.bl k) ∧ Q k S') E
theorem mono_B {m : MX} (h : MonoX m) : MonoT (mB m) := fun env S Q Q' E E' k hx q => h _ _ _ _ _ _ (fun w S' ⟨b, e, z⟩ => ⟨b, e, k _ _ z⟩) hx q
theorem tB_go {m : MX} (mo : MonoX m) {C : Cxt} (σ : L2.St) (H : Hp) (Q : Bool → Hp → Prop) (h : tMT C E (mB m) σ H Q) : tM C E m σ H fun x H1 => ∃ c, x = .bl c ∧ Q c H1 := by
  obtain ⟨g, B0, ρ, env, S, R, N, q⟩ := h
  refine tM.go mo R N q (fun _ z => z) fun w S1 ⟨k, e, q1⟩ g1 ρ1 H1 v1 R1 e1 r1 => ?_
  subst e
  cases (show RV _ _ _ _ (.bl k) v1 from r1)
  exact ⟨k, rfl, q1 g1 ρ1 H1 R1 e1⟩
theorem mt_val {e : Expr} {m : MX} (h : ME E X e m) (he : ∀ whole, isTrue e X.env whole = (do let v ← whole; standAt e.pos; holding [v] (truthy v)) := by intro _; rfl) : MTJ E X e (mB m) :=
  ⟨PT.imp (pt_val h.pe he) fun σ H Q q => tB_go h.mono σ H Q q, mono_B h.mono⟩
theorem mt_cmp {op : CmpOp} {o : MO} (ho : OpM X (compareOp op) o) (ha : ME E X a ma) (hb : ME E X b mb) (hm : behindInMarks op b = false := by first | exact nomark _ | rfl) : MTJ E X (.Compare a [op] [b] pos) (mB (mBin o ma mb)) := by
  obtain ⟨r, h1, h2⟩ := ho.ex
  have mo := mono_bin ho.mono ha.mono hb.mono
  exact ⟨PT.imp (pt_cmpR h1 ha.pe hb.pe hm) fun σ H Q q => bin_go h2 ho.mono ha hb σ H _ (let z := tB_go mo σ H Q q; z), mono_B mo⟩
/-- a op b op' c -/
def mChain (o o' : MO) (ma mb mc : MX) : MX := fun env S Q E => ma env S (fun w1 S1 => mb env S1 (fun w2 S2 => o S2 w1 w2 fun d => ∃ k, d = .bl k ∧ if k = true then mc env S2 (fun w3 S3 => o' S3 w2 w3 fun d' => Q (.d d') S3) E else Q (.d (.bl false)) S2) E) E
theorem mono_chain {o o' : MO} (ho : ∀ S w1 w2 P P', (∀ d, P d → P' d) → o S w1 w2 P → o S w1 w2 P') (ho' : ∀ S w1 w2 P P', (∀ d, P d → P' d) → o' S w1 w2 P → o' S w1 w2 P') (ha : MonoX ma) (hb : MonoX mb) (hc : MonoX mc) :
    MonoX (mChain o o' ma mb mc) := fun env S Q Q' E E' h hx q =>
  ha _ _ _ _ _ _ (fun w1 S1 q1 => hb _ _ _ _ _ _ (fun w2 S2 q2 => ho _ _ _ _ _ (fun d ⟨k, e, q3⟩ => ⟨k, e, by
    cases k with
    | true => exact hc _ _ _ _ _ _ (fun w3 S3 q4 => ho' _ _ _ _ _ (fun d' q5 => h _ _ q5) q4) hx q3
    | false => exact h _ _ q3⟩) q2) hx q1) hx q
theorem chain_go {o o' : MO} {r r' : R2} (hs : OpS (ctx X) r o) (hs' : OpS (ctx X) r' o') (ha : ME E X a ma) (hb : ME E X b mb) (hc : ME E X c mc) (σ : L2.St) (H : Hp) (Q : VK) (h : tM (ctx X) E (mChain o o' ma mb mc) σ H Q) :
    tChain r r' (tM (ctx X) E ma) (tM (ctx X) E mb) (tM (ctx X) E mc) σ H Q := by
  obtain ⟨g, B0, ρ, env, S, R, N, q⟩ := h
  refine tM.go ha.mono R N q (fun _ z => z) fun w1 S1 q1 g1 ρ1 H1 v1 R1 e1 r1 => ?_
  refine tM.go hb.mono R1 (N.ext e1) q1 (fun x z => z.ext e1) fun w2 S2 q2 g2 ρ2 H2 v2 R2 e2 r2 => ?_
  refine hs _ _ _ _ _ _ _ _ _ _ _ R2 (r1.ext e2) r2 q2 fun H3 z dz R3 e3 r3 ⟨k, ek, p⟩ => ?_
  subst ek
  cases r3
  refine ⟨k, rfl, ?_⟩
  have e13 := (e1.trans e2).trans e3
  cases k with
  | true =>
    refine tM.go hc.mono R3 (N.ext e13) p (fun x z => z.ext e13) fun w3 S3 q3 g4 ρ4 H4 v3 R4 e4 r4 => ?_
    refine hs' _ _ _ _ _ _ _ _ _ _ _ R4 ((r2.ext e3).ext e4) r4 q3 fun H5 z dz R5 e5 r5 p => ?_
    exact p g4 ρ4 H5 z R5 ((e13.trans e4).trans e5) r5
  | false => exact p g2 ρ2 H3 _ R3 e13 (.bl false)
theorem me_chain {op op' : CmpOp} {o o' : MO} (ho : OpM X (compareOp op) o) (ho' : OpM X (compareOp op') o') (ha : ME E X a ma) (hb : ME E X b mb) (hc : ME E X c mc)
    (hm : lastMarks [op, op'] [b, c] = false := by with_unfolding_all rfl) : ME E X (.Compare a [op, op'] [b, c] pos) (mChain o o' ma mb mc) := by
  obtain ⟨r, q1, q2⟩ := ho.ex
  obtain ⟨r', q1', q2'⟩ := ho'.ex
  exact ⟨PE.imp (pe_chain q1 q1' ha.pe hb.pe hc.pe hm) (chain_go q2 q2' ha hb hc), mono_chain ho.mono ho'.mono ha.mono hb.mono hc.mono⟩
theorem mt_chain {op op' : CmpOp} {o o' : MO} (ho : OpM X (compareOp op) o) (ho' : OpM X (compareOp op') o') (ha : ME E X a ma) (hb : ME E X b mb) (hc : ME E X c mc)
    (hm : lastMarks [op, op'] [b, c] = false := by with_unfolding_all rfl) : MTJ E X (.Compare a [op, op'] [b, c] pos) (mB (mChain o o' ma mb mc)) := by
  obtain ⟨r, q1, q2⟩ := ho.ex
  obtain ⟨r', q1', q2'⟩ := ho'.ex
  have mo := mono_chain ho.mono ho'.mono ha.mono hb.mono hc.mono
  exact ⟨PT.imp (pt_chain q1 q1' ha.pe hb.pe hc.pe hm) fun σ H Q q => chain_go q2 q2' ha hb hc σ H _ (tB_go mo σ H Q q), mono_B mo⟩
end

/-! ### and, or, not, if-else -/
def tAnd' (t u : MT) : MT := fun env S Q E => t env S (fun k S' => if k = true then u env S' Q E else Q false S') E
def tOr' (t u : MT) : MT := fun env S Q E => t env S (fun k S' => if k = true then Q true S' else u env S' Q E) E
def tNot' (t : MT) : MT := fun env S Q E => t env S (fun k S' => Q (!k) S') E
section
variable {C : Cxt} {E : XK} {g g1 : Gh} {B0 : Addr → Prop} {ρ ρ1 : List Addr} {S S1 : Sto} {H H1 : Hp} {env : MEnv} {σ : L2.St}
theorem tMT.go {m : MT} {Q : Bool → Hp → Prop} {P : Bool → Sto → Prop} {Ex : D → Prop} (mo : MonoT m) (R : Rel C g B0 ρ S H) (N : EnvR C g (Bad g B0 ρ S) ρ H env σ) (h : m env S P Ex) (hx : ∀ x, Ex x → XPost C E g B0 ρ S H x)
    (k : ∀ w S', P w S' → ∀ g' ρ' H', Rel C g' B0 ρ' S' H' → Ext g B0 ρ S H g' ρ' S' H' → Q w H') : tMT C E m σ H Q := ⟨g, B0, ρ, env, S, R, N, mo _ _ _ _ _ _ k hx h⟩
theorem tMA.go {m : MA} {Q : List V → Hp → Prop} {P : List W → Sto → Prop} {Ex : D → Prop} (mo : MonoA m) (R : Rel C g B0 ρ S H) (N : EnvR C g (Bad g B0 ρ S) ρ H env σ) (h : m env S P Ex) (hx : ∀ x, Ex x → XPost C E g B0 ρ S H x)
    (k : ∀ w S', P w S' → ∀ g' ρ' H' vs, Rel C g' B0 ρ' S' H' → Ext g B0 ρ S H g' ρ' S' H' → Paired (RW C g' (Bad g' B0 ρ' S') ρ' H') w vs → Q vs H') : tMA C E m σ H Q := ⟨g, B0, ρ, env, S, R, N, mo _ _ _ _ _ _ k hx h⟩
end
/-- a test of and, or, whatever its whole -/
structure MWJ (E : XK) (X : Cx) (e : Expr) (m : MT) : Prop where
  pw : PW X e (tMT (ctx X) E m)
  mono : MonoT m
section
variable {E : XK} {X : Cx} {a b c : Expr} {rest : List Expr} {ta tb tc : MT} {ma mb : MX} {pos : Pos}
theorem mono_and (ha : MonoT ta) (hb : MonoT tb) : MonoT (tAnd' ta tb) := fun env S Q Q' E E' h hx q => ha _ _ _ _ _ _ (fun k S' z => by
  cases k with
  | true => exact hb _ _ _ _ _ _ h hx z
  | false => exact h _ _ z) hx q
theorem mono_or (ha : MonoT ta) (hb : MonoT tb) : MonoT (tOr' ta tb) := fun env S Q Q' E E' h hx q => ha _ _ _ _ _ _ (fun k S' z => by
  cases k with
  | true => exact h _ _ z
  | false => exact hb _ _ _ _ _ _ h hx z) hx q
theorem and_go (ha : MonoT ta) (hb : MonoT tb) (σ : L2.St) (H : Hp) (Q : Bool → Hp → Prop) (h : tMT (ctx X) E (tAnd' ta tb) σ H Q) : tAnd (tMT (ctx X) E ta) (tMT (ctx X) E tb) σ H Q := by
  obtain ⟨g, B0, ρ, env, S, R, N, q⟩ := h
  refine tMT.go ha R N q (fun _ z => z) fun k S1 q1 g1 ρ1 H1 R1 e1 => ?_
  cases k with
  | true => exact tMT.go hb R1 (N.ext e1) q1 (fun x z => z.ext e1) fun k2 S2 q2 g2 ρ2 H2 R2 e2 => q2 g2 ρ2 H2 R2 (e1.trans e2)
  | false => exact q1 g1 ρ1 H1 R1 e1
theorem or_go (ha : MonoT ta) (hb : MonoT tb) (σ : L2.St) (H : Hp) (Q : Bool → Hp → Prop) (h : tMT (ctx X) E (tOr' ta tb) σ H Q) : tOr (tMT (ctx X) E ta) (tMT (ctx X) E tb) σ H Q := by
  obtain ⟨g, B0, ρ, env, S, R, N, q⟩ := h
  refine tMT.go ha R N q (fun _ z => z) fun k S1 q1 g1 ρ1 H1 R1 e1 => ?_
  cases k with
  | true => exact q1 g1 ρ1 H1 R1 e1
  | false => exact tMT.go hb R1 (N.ext e1) q1 (fun x z => z.ext e1) fun k2 S2 q2 g2 ρ2 H2 R2 e2 => q2 g2 ρ2 H2 R2 (e1.trans e2)
theorem mw_and1 (h : MTJ E X a ta) : MWJ E X (.BoolOp .And [a] pos) ta := ⟨pw_and1 h.pt, h.mono⟩
theorem mw_or1 (h : MTJ E X a ta) : MWJ E X (.BoolOp .Or [a] pos) ta := ⟨pw_or1 h.pt, h.mono⟩
theorem mw_and (ha : MTJ E X a ta) (hb : MWJ E X (.BoolOp .And (b :: rest) pos) tb) : MWJ E X (.BoolOp .And (a :: b :: rest) pos) (tAnd' ta tb) := ⟨PW.imp (pw_and ha.pt hb.pw) (and_go ha.mono hb.mono), mono_and ha.mono hb.mono⟩
theorem mw_or (ha : MTJ E X a ta) (hb : MWJ E X (.BoolOp .Or (b :: rest) pos) tb) : MWJ E X (.BoolOp .Or (a :: b :: rest) pos) (tOr' ta tb) := ⟨PW.imp (pw_or ha.pt hb.pw) (or_go ha.mono hb.mono), mono_or ha.mono hb.mono⟩
theorem MWJ.t (h : MWJ E X a ta) : MTJ E X a ta := ⟨h.pw.pt, h.mono⟩
theorem mt_not (h : MTJ E X a ta) : MTJ E X (.UnaryOp .Not a pos) (tNot' ta) := ⟨PT.imp (pt_not h.pt) fun σ H Q ⟨g, B0, ρ, env, S, R, N, q⟩ => ⟨g, B0, ρ, env, S, R, N, q⟩, fun _ _ _ _ _ _ k hx q => h.mono _ _ _ _ _ _ (fun b S z => k _ _ z) hx q⟩
/-- .. as values: all but the last bools -/
def mAnd (ma mb : MX) : MX := fun env S Q E => ma env S (fun w S' => ∃ k, w = .d (.bl k) ∧ if k = true then mb env S' Q E else Q (.d (.bl false)) S') E
def mOr (ma mb : MX) : MX := fun env S Q E => ma env S (fun w S' => ∃ k, w = .d (.bl k) ∧ if k = true then Q (.d (.bl true)) S' else mb env S' Q E) E
def mNot (ma : MX) : MX := fun env S Q E => ma env S (fun w S' => ∃ k, w = .d (.bl k) ∧ Q (.d (.bl (!k))) S') E
theorem me_one {op} (h : ME E X a ma) : ME E X (.BoolOp op [a] pos) ma := ⟨pe_one h.pe, h.mono⟩
theorem me_and (ha : ME E X a ma) (hb : ME E X (.BoolOp .And (b :: rest) pos) mb) : ME E X (.BoolOp .And (a :: b :: rest) pos) (mAnd ma mb) := by
  refine ⟨PE.imp (pe_and ha.pe hb.pe) fun σ H Q ⟨g, B0, ρ, env, S, R, N, q⟩ => ?_, fun env S Q Q' E E' h hx q => ha.mono _ _ _ _ _ _ (fun w S' ⟨k, e, z⟩ => ⟨k, e, by
    cases k with
    | true => exact hb.mono _ _ _ _ _ _ h hx z
    | false => exact h _ _ z⟩) hx q⟩
  refine tM.go ha.mono R N q (fun _ z => z) fun w S1 ⟨k, ek, q1⟩ g1 ρ1 H1 v1 R1 e1 r1 => ?_
  subst ek
  cases (show RV _ _ _ _ (.bl k) v1 from r1)
  refine ⟨k, rfl, ?_⟩
  cases k with
  | true => exact tM.go hb.mono R1 (N.ext e1) q1 (fun x z => z.ext e1) fun w2 S2 q2 g2 ρ2 H2 v2 R2 e2 r2 => q2 g2 ρ2 H2 v2 R2 (e1.trans e2) r2
  | false => exact q1 g1 ρ1 H1 _ R1 e1 (RV.bl false)
theorem me_or (ha : ME E X a ma) (hb : ME E X (.BoolOp .Or (b :: rest) pos) mb) : ME E X (.BoolOp .Or (a :: b :: rest) pos) (mOr ma mb) := by
  refine ⟨PE.imp (pe_or ha.pe hb.pe) fun σ H Q ⟨g, B0, ρ, env, S, R, N, q⟩ => ?_, fun env S Q Q' E E' h hx q => ha.mono _ _ _ _ _ _ (fun w S' ⟨k, e, z⟩ => ⟨k, e, by
    cases k with
    | true => exact h _ _ z
    | false => exact hb.mono _ _ _ _ _ _ h hx z⟩) hx q⟩
  refine tM.go ha.mono R N q (fun _ z => z) fun w S1 ⟨k, ek, q1⟩ g1 ρ1 H1 v1 R1 e1 r1 => ?_
  subst ek
  cases (show RV _ _ _ _ (.bl k) v1 from r1)
  refine ⟨k, rfl, ?_⟩
  cases k with
  | true => exact q1 g1 ρ1 H1 _ R1 e1 (RV.bl true)
  | false => exact tM.go hb.mono R1 (N.ext e1) q1 (fun x z => z.ext e1) fun w2 S2 q2 g2 ρ2 H2 v2 R2 e2 r2 => q2 g2 ρ2 H2 v2 R2 (e1.trans e2) r2
theorem me_not (ha : ME E X a ma) : ME E X (.UnaryOp .Not a pos) (mNot ma) := by
  refine ⟨PE.imp (pe_not ha.pe) fun σ H Q ⟨g, B0, ρ, env, S, R, N, q⟩ => ?_, fun env S Q Q' E E' h hx q => ha.mono _ _ _ _ _ _ (fun w S' ⟨k, e, z⟩ => ⟨k, e, h _ _ z⟩) hx q⟩
  refine tM.go ha.mono R N q (fun _ z => z) fun w S1 ⟨k, ek, q1⟩ g1 ρ1 H1 v1 R1 e1 r1 => ?_
  subst ek
  cases (show RV _ _ _ _ (.bl k) v1 from r1)
  exact ⟨k, rfl, q1 g1 ρ1 H1 _ R1 e1 (RV.bl _)⟩
def mIf (t : MT) (ma mb : MX) : MX := fun env S Q E => t env S (fun k S' => if k = true then ma env S' Q E else mb env S' Q E) E
theorem me_if (hc : MTJ E X c tc) (ha : ME E X a ma) (hb : ME E X b mb) : ME E X (.IfExp c a b pos) (mIf tc ma mb) := by
  refine ⟨PE.imp (pe_ifExp hc.pt ha.pe hb.pe) fun σ H Q ⟨g, B0, ρ, env, S, R, N, q⟩ => ?_, fun env S Q Q' E E' h hx q => hc.mono _ _ _ _ _ _ (fun k S' z => by
    cases k with
    | true => exact ha.mono _ _ _ _ _ _ h hx z
    | false => exact hb.mono _ _ _ _ _ _ h hx z) hx q⟩
  refine tMT.go hc.mono R N q (fun _ z => z) fun k S1 q1 g1 ρ1 H1 R1 e1 => ?_
  cases k with
  | true => exact tM.go ha.mono R1 (N.ext e1) q1 (fun x z => z.ext e1) fun w2 S2 q2 g2 ρ2 H2 v2 R2 e2 r2 => q2 g2 ρ2 H2 v2 R2 (e1.trans e2) r2
  | false => exact tM.go hb.mono R1 (N.ext e1) q1 (fun x z => z.ext e1) fun w2 S2 q2 g2 ρ2 H2 v2 R2 e2 r2 => q2 g2 ρ2 H2 v2 R2 (e1.trans e2) r2
end

/-! ### arguments, displays -/
def aNil : MA := fun _ S Q _ => Q [] S
def aCons (m : MX) (t : MA) : MA := fun env S Q E => m env S (fun w S1 => t env S1 (fun ws S2 => Q (w :: ws) S2) E) E
def datas : List W → Option (List D)
  | [] => some []
  | .d x :: r => (datas r).map (x :: ·)
  | .ref _ :: _ => none
theorem Paired.rws {C : Cxt} {g : Gh} {B : Addr → Prop} {ρ : List Addr} {H : Hp} : ∀ {ws : List W} {vs : List V} {xs : List D}, Paired (RW C g B ρ H) ws vs → datas ws = some xs → RVs C g B H xs vs
  | _, _, _, .nil, h => by
    cases h
    exact .nil
  | .d x :: ws, v :: vs, xs, .cons r t, h => by
    unfold datas at h
    cases q : datas ws with
    | none => rw [q] at h; cases h
    | some ys =>
      rw [q] at h
      cases h
      exact .cons r (Paired.rws t q)
  | .ref _ :: _, _, _, .cons _ _, h => by cases h
theorem datas_length : ∀ {ws : List W} {xs : List D}, datas ws = some xs → xs.length = ws.length
  | [], _, h => by
    cases h
    rfl
  | .d x :: ws, xs, h => by
    unfold datas at h
    cases q : datas ws with
    | none => rw [q] at h; cases h
    | some ys =>
      rw [q] at h
      cases h
      exact congrArg (· + 1) (datas_length q)
  | .ref _ :: _, _, h => by cases h
theorem Paired.len {α β : Type} {F : α → β → Prop} : ∀ {xs : List α} {ys : List β}, Paired F xs ys → xs.length = ys.length
  | _, _, .nil => rfl
  | _, _, .cons _ t => congrArg (· + 1) (Paired.len t)
abbrev line : Nat := 16000000
theorem line_le {n : Nat} (h : n ≤ line) : n ≤ sizeLine := by rw [sizeLine_eq]; unfold line at h; omega
theorem line_lt {n : Nat} (h : n < line) : n < sizeLine := by rw [sizeLine_eq]; unfold line at h; omega
section
variable {E : XK} {X : Cx} {e : Expr} {es : List Expr} {m : MX} {t : MA} {pos : Pos}
theorem ma_nil : MAJ E X [] aNil := ⟨PA.imp pa_nil fun σ H Q ⟨g, B0, ρ, env, S, R, N, q⟩ => q g ρ H [] R Ext.refl .nil, fun _ _ _ _ _ _ h _ q => h _ _ q, fun _ _ _ _ h => ⟨rfl, h⟩⟩
theorem ma_cons (he : ME E X e m) (ht : MAJ E X es t) (hs : starEach (e :: es) X.env = (false, eval e X.env) :: starEach es X.env := by rfl) : MAJ E X (e :: es) (aCons m t) := by
  refine ⟨PA.imp (pa_cons he.pe ht.pa hs) fun σ H Q ⟨g, B0, ρ, env, S, R, N, q⟩ => ?_, fun env S Q Q' E E' h hx q => he.mono _ _ _ _ _ _ (fun w S' z => ht.mono _ _ _ _ _ _ (fun ws S2 y => h _ _ y) hx z) hx q, fun env S Q E q => he.mono _ _ _ _ _ _ (fun w S1 z => ht.mono _ _ _ _ _ _ (fun ws S2 y => ⟨congrArg (· + 1) y.1, y.2⟩) (fun _ y => y) (ht.len _ _ _ _ z)) (fun _ z => z) q⟩
  refine tM.go he.mono R N q (fun _ z => z) fun w S1 q1 g1 ρ1 H1 v1 R1 e1 r1 => ?_
  exact tMA.go ht.mono R1 (N.ext e1) q1 (fun x z => z.ext e1) fun ws S2 q2 g2 ρ2 H2 vs R2 e2 r2 => q2 g2 ρ2 H2 (v1 :: vs) R2 (e1.trans e2) (.cons (r1.ext e2) r2)
def mTup (t : MA) : MX := fun env S Q E => t env S (fun ws S1 => ∃ xs, datas ws = some xs ∧ xs.length ≤ line ∧ Q (.d (.tup xs)) S1) E
theorem me_tup {x1} (h : MAJ E X es t) : ME E X (.Tuple es x1 pos) (mTup t) := by
  refine ⟨PE.imp (pe_tup h.pa) fun σ H Q ⟨g, B0, ρ, env, S, R, N, q⟩ => ?_, fun env S Q Q' E E' k hx q => h.mono _ _ _ _ _ _ (fun w S' ⟨xs, a, b, c⟩ => ⟨xs, a, b, k _ _ c⟩) hx q⟩
  refine tMA.go h.mono R N q (fun _ z => z) fun ws S1 ⟨xs, ex, hl, q1⟩ g1 ρ1 H1 vs R1 e1 r1 => ?_
  have rv := Paired.rws r1 ex
  refine ⟨by rw [← rv.length]; exact line_le hl, fun p hp => ?_⟩
  obtain ⟨R2, e2, _⟩ := R1.new (o := .tup vs) hp
  exact q1 g1 ρ1 _ _ R2 (e1.trans e2) (RV.tup upd_same (rv.mono e2.up))
/-- a display that stands still from now on -/
def mLst (t : MA) : MX := fun env S Q E => t env S (fun ws S1 => ∃ xs, datas ws = some xs ∧ xs.length ≤ line ∧ Q (.d (.lst xs)) S1) E
theorem me_lst (h : MAJ E X es t) : ME E X (.List es pos) (mLst t) := by
  refine ⟨PE.imp (pe_lst h.pa) fun σ H Q ⟨g, B0, ρ, env, S, R, N, q⟩ => ?_, fun env S Q Q' E E' k hx q => h.mono _ _ _ _ _ _ (fun w S' ⟨xs, a, b, c⟩ => ⟨xs, a, b, k _ _ c⟩) hx q⟩
  refine tMA.go h.mono R N q (fun _ z => z) fun ws S1 ⟨xs, ex, hl, q1⟩ g1 ρ1 H1 vs R1 e1 r1 => ?_
  have rv := Paired.rws r1 ex
  refine ⟨by rw [← rv.length]; exact line_le hl, fun p hp => ?_⟩
  obtain ⟨R2, e2, nb⟩ := R1.new (o := .lst vs) hp
  exact q1 g1 ρ1 _ _ R2 (e1.trans e2) (RV.lst (.inl ⟨upd_same, nb⟩) (rv.mono e2.up))
/-- a display that the store holds (it is changed later) -/
def mLstN (t : MA) : MX := fun env S Q E => t env S (fun ws S1 => ws.length ≤ line ∧ Q (.ref S1.length) (S1 ++ [.lst ws])) E
theorem me_lstN (h : MAJ E X es t) : ME E X (.List es pos) (mLstN t) := by
  refine ⟨PE.imp (pe_lst h.pa) fun σ H Q ⟨g, B0, ρ, env, S, R, N, q⟩ => ?_, fun env S Q Q' E E' k hx q => h.mono _ _ _ _ _ _ (fun w S' ⟨a, c⟩ => ⟨a, k _ _ c⟩) hx q⟩
  refine tMA.go h.mono R N q (fun _ z => z) fun ws S1 ⟨hl, q1⟩ g1 ρ1 H1 vs R1 e1 r1 => ?_
  refine ⟨by rw [← Paired.len r1]; exact line_le hl, fun p hp => ?_⟩
  obtain ⟨R2, e2⟩ := R1.push (o := .lst ws) (u := .lst vs) hp rfl fun B b1 b2 => ⟨vs, upd_same, Paired.mapP r1 fun w v q => q.mono ⟨fun b o a _ => by rw [upd_ne (ne_of_none a hp)]; exact a, fun b o a n => ⟨by rw [upd_ne (ne_of_none a hp)]; exact a, fun z => (b2 b z).elim n (ne_of_none a hp)⟩, .refl⟩ ⟨[p], rfl⟩⟩
  exact q1 g1 _ _ _ R2 (e1.trans e2) ⟨p, by rw [← R1.len]; simp, rfl⟩
end
end RW
/-! RwStmts: statements, targets, loops, comprehensions. -/
namespace RW
open PySem PySem.Spec PyProof.Rows L2
variable [Tbl]

/-! ### a value of the store as data -/
def mapO {α β : Type} (f : α → Option β) : List α → Option (List β)
  | [] => some []
  | a :: r => match f a, mapO f r with
    | some b, some bs => some (b :: bs)
    | _, _ => none
def dp : Nat → Sto → W → Option D
  | _, _, .d x => some x
  | 0, _, .ref _ => none
  | n + 1, S, .ref i => match S[i]? with
    | some (.lst ws) => (mapO (dp n S) ws).map D.lst
    | some (.frz x) => some x
    | _ => none
theorem mapO_cons {α β : Type} {f : α → Option β} {a : α} {r : List α} {bs : List β} (h : mapO f (a :: r) = some bs) : ∃ b c, f a = some b ∧ mapO f r = some c ∧ bs = b :: c := by
  unfold mapO at h
  cases h1 : f a with
  | none => rw [h1] at h; simp at h
  | some b =>
    cases h2 : mapO f r with
    | none => rw [h1, h2] at h; simp at h
    | some c => rw [h1, h2] at h; cases h; exact ⟨b, c, rfl, rfl, rfl⟩
theorem rks_of {F : W → V → Prop} {f : W → Option D} {C : Cxt} {g : Gh} {B : Addr → Prop} {H : Hp} (hf : ∀ w v x, F w v → f w = some x → RV C g B H x v) : ∀ {kvs : List (Key × W)} {vs : List (Key × V)} {xs : List D},
    Paired (fun (p : Key × W) (q : Key × V) => p.1 = q.1 ∧ F p.2 q.2) kvs vs → mapO f (kvs.map (·.2)) = some xs → RKs C g B H (List.zipWith (fun p x => (kD p.1, x)) kvs xs) vs
  | _, _, _, .nil, e => by cases e; exact .nil
  | (k, w) :: _, (_, v) :: _, _, .cons ⟨rfl, r⟩ t, e => by
    obtain ⟨b, c, h1, h2, rfl⟩ := mapO_cons e
    exact .cons (hf _ _ _ r h1) (rks_of hf t h2)
theorem rts_of {F : W → V → Prop} {f : W → Option D} {C : Cxt} {g : Gh} {B : Addr → Prop} {H : Hp} (hf : ∀ w v x, F w v → f w = some x → RV C g B H x v) : ∀ {kvs : List (List Key × W)} {vs : List (List Key × V)} {xs : List D},
    Paired (fun (p : List Key × W) (q : List Key × V) => p.1 = q.1 ∧ F p.2 q.2) kvs vs → mapO f (kvs.map (·.2)) = some xs → RTs C g B H (List.zipWith (fun p x => (D.tup (p.1.map kD), x)) kvs xs) vs
  | _, _, _, .nil, e => by cases e; exact .nil
  | (k, w) :: _, (_, v) :: _, _, .cons ⟨rfl, r⟩ t, e => by
    obtain ⟨b, c, h1, h2, rfl⟩ := mapO_cons e
    exact .cons (hf _ _ _ r h1) (rts_of hf t h2)
theorem dp_d (n : Nat) (S : Sto) (x : D) : dp n S (.d x) = some x := by cases n <;> rfl
section
variable {C : Cxt} {g g' : Gh} {B0 : Addr → Prop} {ρ ρ' : List Addr} {S S' : Sto} {H H' : Hp}
theorem bad_nil {b : Addr} (h : Bad g B0 [] [] b) : Bad g B0 ρ S b := by
  rcases h with h | h
  · exact .inl h
  · exact .inr (.inl (Own.nil.mp h))
theorem not_bad_nil {b : Addr} (h1 : ¬ B0 b) (h2 : ¬ DrA g b) : ¬ Bad g B0 [] [] b := fun z => z.elim h1 fun z => h2 (Own.nil.mp z)
theorem RV.toNil {d : D} {v : V} (h : RV C g (Bad g B0 ρ S) H d v) : RV C g (Bad g B0 [] []) H d v := h.mono (Up.weak fun _ => bad_nil)
theorem RVs.toNil {d : List D} {v : List V} (h : RVs C g (Bad g B0 ρ S) H d v) : RVs C g (Bad g B0 [] []) H d v := h.mono (Up.weak fun _ => bad_nil)
theorem Rel.dp (R : Rel C g B0 ρ S H) : ∀ (n : Nat) {w : W} {v : V} {x : D}, RW C g (Bad g B0 ρ S) ρ H w v → RW.dp n S w = some x → RV C g (Bad g B0 [] []) H x v
  | n, .d y, v, x, h, e => by
    rw [dp_d] at e
    cases e
    exact RV.toNil h
  | 0, .ref i, v, x, h, e => by cases e
  | n + 1, .ref i, v, x, ⟨a, ha, ev⟩, e => by
    subst ev
    unfold RW.dp at e
    cases hs : S[i]? with
    | none => rw [hs] at e; cases e
    | some o =>
      rw [hs] at e
      have q := R.obj i o a hs ha
      cases o with
      | lst ws =>
        simp only at e
        cases hm : mapO (RW.dp n S) ws with
        | none => rw [hm] at e; cases e
        | some xs =>
          rw [hm] at e
          cases e
          obtain ⟨vs, h1, h2⟩ := q
          obtain ⟨o1, o2⟩ := R.out i _ a hs rfl ha
          refine .lst (.inl ⟨h1, not_bad_nil o1 o2⟩) ?_
          have go : ∀ {ws : List W} {vs : List V} {xs : List D}, Paired (RW C g (Bad g B0 ρ S) ρ H) ws vs → mapO (RW.dp n S) ws = some xs → RVs C g (Bad g B0 [] []) H xs vs := by
            intro ws
            induction ws with
            | nil =>
              intro vs xs p e
              cases p
              cases e
              exact .nil
            | cons w ws ih =>
              intro vs xs p e
              cases p with
              | cons r t =>
                unfold mapO at e
                cases hw : RW.dp n S w with
                | none => rw [hw] at e; simp at e
                | some y =>
                  cases hr : mapO (RW.dp n S) ws with
                  | none => rw [hw, hr] at e; simp at e
                  | some ys =>
                    rw [hw, hr] at e
                    cases e
                    exact .cons (Rel.dp R n r hw) (ih t hr)
          exact go h2 hm
      | ins c fs => cases e
      | frz y =>
        cases e
        exact RV.toNil q
      | dK kvs => cases e
      | dT kvs => cases e
end

/-! ### small statements -/
def sSeq (a b : MS) : MS := fun K env S => a { K with nx := b K } env S
def sNext : MS := fun K env S => K.nx env S
def sSet (i : Nat) (m : MX) : MS := fun K env S => m env S (fun w S' => K.nx (env.set i (some w)) S') K.ex
def sDrop (m : MX) : MS := fun K env S => m env S (fun _ S' => K.nx env S') K.ex
def sRet (m : MX) : MS := fun K env S => m env S (fun w S' => ∃ x, dp 4 S' w = some x ∧ K.rt x) K.ex
def sRetN : MS := fun K _ _ => K.rt .non
def sIf (t : MT) (a b : MS) : MS := fun K env S => t env S (fun k S' => if k = true then a K env S' else b K env S') K.ex
def sBreak : MS := fun K env S => K.bk env S
def sCont : MS := fun K env S => K.ct env S
def sNever : MS := fun _ _ _ => False
section
variable {C : Cxt} {E : XK} {g g1 : Gh} {B0 : Addr → Prop} {ρ ρ1 : List Addr} {S S1 : Sto} {H H1 : Hp} {env : MEnv} {σ : L2.St}
theorem StP.ext {N : L2.St → Hp → Prop} (e : Ext g B0 ρ S H g1 ρ1 S1 H1) {env' : MEnv} {S' : Sto} (h : StP C g B0 ρ S H N env' S') : StP C g1 B0 ρ1 S1 H1 N env' S' := fun g' ρ' H' σ' R x n => h g' ρ' H' σ' R (e.trans x) n
theorem ends_ext {D' : Ends} (e : Ext g B0 ρ S H g1 ρ1 S1 H1) : MEnds.Le (endsOf C E g B0 ρ S H D') (endsOf C E g1 B0 ρ1 S1 H1 D') :=
  ⟨fun _ _ h => h.ext e, fun x h g' ρ' S' H' v R y r => h g' ρ' S' H' v R (e.trans y) r, fun _ _ h => h.ext e, fun _ _ h => h.ext e, fun _ h => h.ext e⟩
theorem tMS.go {m : MS} {D' : Ends} {K : MEnds} (mo : MonoS m) (R : Rel C g B0 ρ S H) (N : EnvR C g (Bad g B0 ρ S) ρ H env σ) (h : m K env S) (k : MEnds.Le K (endsOf C E g B0 ρ S H D')) : tMS C E m D' σ H := ⟨g, B0, ρ, env, S, R, N, mo _ _ _ _ k h⟩
theorem MEnds.Le.refl (K : MEnds) : MEnds.Le K K := ⟨fun _ _ h => h, fun _ h => h, fun _ _ h => h, fun _ _ h => h, fun _ h => h⟩
theorem MEnds.Le.trans {K K' K'' : MEnds} (a : MEnds.Le K K') (b : MEnds.Le K' K'') : MEnds.Le K K'' := ⟨fun _ _ h => b.nx _ _ (a.nx _ _ h), fun _ h => b.rt _ (a.rt _ h), fun _ _ h => b.bk _ _ (a.bk _ _ h), fun _ _ h => b.ct _ _ (a.ct _ _ h), fun _ h => b.ex _ (a.ex _ h)⟩
end
section
variable {E : XK} {X : Cx} {st : Stmt} {rest : List Stmt} {a b : MS} {e : Expr} {m : MX} {pos : Pos}
theorem mss_nil : MSs E X [] sNext := ⟨PSs.imp pss_nil fun D' σ H ⟨g, B0, ρ, env, S, R, N, q⟩ => q g ρ H σ R Ext.refl N, fun _ _ _ _ k h => k.nx _ _ h⟩
theorem mono_seq (ha : MonoS a) (hb : MonoS b) : MonoS (sSeq a b) := fun K K' env S k h => ha { K with nx := b K } { K' with nx := b K' } env S ⟨fun _ _ z => hb _ _ _ _ k z, k.rt, k.bk, k.ct, k.ex⟩ h
theorem mss_cons (h1 : MSJ E X st a) (h2 : MSs E X rest b) : MSs E X (st :: rest) (sSeq a b) := by
  refine ⟨PSs.imp (pss_cons h1.ps h2.ps) fun D' σ H ⟨g, B0, ρ, env, S, R, N, q⟩ => ?_, mono_seq h1.mono h2.mono⟩
  refine tMS.go h1.mono R N q ⟨fun env1 S1 h g1 ρ1 H1 σ1 R1 e1 N1 => ?_, fun _ h => h, fun _ _ h => h, fun _ _ h => h, fun _ h => h⟩
  exact tMS.go h2.mono R1 N1 h (ends_ext e1)
theorem mss_one (h1 : MSJ E X st a) : MSs E X [st] a := ⟨PSs.imp (pss_one h1.ps) fun D' σ H h => h, h1.mono⟩
theorem mss_never {sts : List Stmt} : MSs E X sts sNever := ⟨PSs.imp pss_never fun _ _ _ ⟨_, _, _, _, _, _, _, q⟩ => q, fun _ _ _ _ _ h => h⟩
theorem ms_pass : MSJ E X (.Pass pos) sNext := ⟨PS.imp ps_pass fun D' σ H ⟨g, B0, ρ, env, S, R, N, q⟩ => q g ρ H σ R Ext.refl N, fun _ _ _ _ k h => k.nx _ _ h⟩
theorem ms_break : MSJ E X (.Break pos) sBreak := ⟨PS.imp ps_break fun D' σ H ⟨g, B0, ρ, env, S, R, N, q⟩ => q g ρ H σ R Ext.refl N, fun _ _ _ _ k h => k.bk _ _ h⟩
theorem ms_cont : MSJ E X (.Continue pos) sCont := ⟨PS.imp ps_continue fun D' σ H ⟨g, B0, ρ, env, S, R, N, q⟩ => q g ρ H σ R Ext.refl N, fun _ _ _ _ k h => k.ct _ _ h⟩
theorem ms_set {i : Nat} {x : Str} {pos' : Pos} (hN : X.N.Nodup) (he : ME E X e m) (hi : X.N[i]? = some x := by rfl) (hx : Loc X.env.scope x := by first | exact Or.inl rfl | exact Or.inr rfl) (hs : swapsWith e (some (.Name x pos')) pos.line X.env = pure false := by rfl)
    (hf : X.fn x = true ∨ X.env.scope.names.lookup x = some .local := by first | exact .inl rfl | exact .inr rfl | assumption) : MSJ E X (.Assign [.Name x pos'] e pos) (sSet i m) := by
  refine ⟨PS.imp (ps_set (i := i) hN hi hx he.pe hs hf) fun D' σ H ⟨g, B0, ρ, env, S, R, N, q⟩ => ?_, fun K K' env S k h => he.mono _ _ _ _ _ _ (fun w S' z => k.nx _ _ z) k.ex h⟩
  exact tM.go he.mono R N q (fun _ z => z) fun w S1 q1 g1 ρ1 H1 v1 R1 e1 r1 => q1 g1 ρ1 H1 _ R1 e1 ((N.ext e1).set i r1)
theorem ms_expr (he : ME E X e m) (hs : swapsWith e none pos.line X.env = pure false := by rfl) : MSJ E X (.Expr e pos) (sDrop m) := by
  refine ⟨PS.imp (ps_expr he.pe hs) fun D' σ H ⟨g, B0, ρ, env, S, R, N, q⟩ => ?_, fun K K' env S k h => he.mono _ _ _ _ _ _ (fun w S' z => k.nx _ _ z) k.ex h⟩
  exact tM.go he.mono R N q (fun _ z => z) fun w S1 q1 g1 ρ1 H1 v1 R1 e1 r1 => q1 g1 ρ1 H1 _ R1 e1 (N.ext e1)
theorem ms_ret (he : ME E X e m) : MSJ E X (.Return (some e) pos) (sRet m) := by
  refine ⟨PS.imp (ps_ret he.pe) fun D' σ H ⟨g, B0, ρ, env, S, R, N, q⟩ => ?_, fun K K' env S k h => he.mono _ _ _ _ _ _ (fun w S' ⟨x, a, b⟩ => ⟨x, a, k.rt _ b⟩) k.ex h⟩
  exact tM.go he.mono R N q (fun _ z => z) fun w S1 ⟨x, ex, q1⟩ g1 ρ1 H1 v1 R1 e1 r1 => q1 g1 ρ1 S1 H1 v1 R1 e1 (R1.dp 4 r1 ex)
theorem ms_retN : MSJ E X (.Return none pos) sRetN := ⟨PS.imp ps_retN fun D' σ H ⟨g, B0, ρ, env, S, R, N, q⟩ => q g ρ S H .non R Ext.refl .non, fun _ _ _ _ k h => k.rt _ h⟩
theorem ms_if {c : Expr} {t : MT} {sa sb : List Stmt} (hc : MTJ E X c t) (ha : MSs E X sa a) (hb : MSs E X sb b) : MSJ E X (.If c sa sb pos) (sIf t a b) := by
  refine ⟨PS.imp (ps_if hc.pt ha.ps hb.ps) fun D' σ H ⟨g, B0, ρ, env, S, R, N, q⟩ => ?_, fun K K' env S k h => hc.mono _ _ _ _ _ _ (fun w S' z => by
    cases w with
    | true => exact ha.mono _ _ _ _ k z
    | false => exact hb.mono _ _ _ _ k z) k.ex h⟩
  refine tMT.go hc.mono R N q (fun _ z => z) fun k S1 q1 g1 ρ1 H1 R1 e1 => ?_
  cases k with
  | true => exact tMS.go ha.mono R1 (N.ext e1) q1 (ends_ext e1)
  | false => exact tMS.go hb.mono R1 (N.ext e1) q1 (ends_ext e1)
theorem ms_doc {x j pos'} : MSJ E X (.Expr (.Constant (.str x) j pos) pos') sNext := ⟨PS.imp ps_doc fun D' σ H ⟨g, B0, ρ, env, S, R, N, q⟩ => q g ρ H σ R Ext.refl N, fun _ _ _ _ k h => k.nx _ _ h⟩
/-- a, b = x, y -/
def sPar (i j : Nat) (t : MA) : MS := fun K env S => t env S (fun ws S' => ∃ u v, ws = [u, v] ∧ K.nx ((env.set i (some u)).set j (some v)) S') K.ex
theorem ms_par {i j : Nat} {x y : Str} {e1 e2 : Expr} {t : MA} {px py pt : Pos} {kt k2 pt2} (hc : X.calm = true) (hN : X.N.Nodup) (ha : MAJ E X [e1, e2] t) (hi : X.N[i]? = some x := by rfl) (hj : X.N[j]? = some y := by rfl) (hij : i ≠ j := by decide)
    (hx : X.env.scope.names.lookup x = some .local := by rfl) (hy : X.env.scope.names.lookup y = some .local := by rfl)
    (hw : swappedStores [.Tuple [.Name x px, .Name y py] kt pt] (.Tuple [e1, e2] k2 pt2) X.env = pure (some [x, y]) := by rfl)
    (hs : swapsWithSole [.Tuple [.Name x px, .Name y py] kt pt] (.Tuple [e1, e2] k2 pt2) pos.line X.env = pure false := by rfl) :
    MSJ E X (.Assign [.Tuple [.Name x px, .Name y py] kt pt] (.Tuple [e1, e2] k2 pt2) pos) (sPar i j t) := by
  refine ⟨PS.imp (ps_par hc hN hi hj hij hx hy ha.pa hw hs) fun D' σ H ⟨g, B0, ρ, env, S, R, N, q⟩ => ?_, fun K K' env S k h => ha.mono _ _ _ _ _ _ (fun w S' ⟨u, v, z, y⟩ => ⟨u, v, z, k.nx _ _ y⟩) k.ex h⟩
  refine tMA.go ha.mono R N q (fun _ z => z) fun ws S1 ⟨u, v, e, q1⟩ g1 ρ1 H1 vs R1 e1 r1 => ?_
  subst e
  cases r1 with
  | cons ra rr =>
    cases rr with
    | cons rb rn =>
      cases rn
      exact ⟨_, _, rfl, q1 g1 ρ1 H1 _ R1 e1 (((N.ext e1).set i ra).set j rb)⟩
end

/-! ### targets -/
abbrev MG := D → MEnv → Option MEnv
def gN (i : Nat) : MG := fun x env => some (env.set i (some (.d x)))
def gTupGo : List MG → List D → MEnv → Option MEnv
  | [], [], env => some env
  | f :: fs, x :: xs, env => (f x env).bind fun env' => gTupGo fs xs env'
  | _, _, _ => none
def gT (fs : List MG) : MG := fun x env => match x with
  | .tup xs => gTupGo fs xs env
  | _ => none
/-- σ' is σ but at the slots is -/
def AwayFrom (is : List Nat) (σ σ' : L2.St) : Prop := σ'.length = σ.length ∧ ∀ k, k ∉ is → σ'[k]? = σ[k]?
theorem AwayFrom.refl {is : List Nat} {σ : L2.St} : AwayFrom is σ σ := ⟨rfl, fun _ _ => rfl⟩
theorem AwayFrom.trans {is : List Nat} {σ σ1 σ2 : L2.St} (a : AwayFrom is σ σ1) (b : AwayFrom is σ1 σ2) : AwayFrom is σ σ2 := ⟨b.1.trans a.1, fun k h => (b.2 k h).trans (a.2 k h)⟩
theorem wipe_get (σ : L2.St) (k : Nat) : ∀ vs : List Nat, (wipe σ vs)[k]? = if k ∈ vs then (σ[k]?).map (fun _ => none) else σ[k]?
  | [] => by simp [wipe]
  | v :: vs => by
    unfold wipe
    by_cases h : v = k
    · subst h
      by_cases hl : v < σ.length
      · rw [List.getElem?_set_self (by rw [wipe_length]; exact hl)]
        simp [hl]
      · rw [List.getElem?_eq_none (by rw [List.length_set, wipe_length]; omega)]
        simp [List.getElem?_eq_none (show σ.length ≤ v by omega)]
    · rw [List.getElem?_set_ne h, wipe_get σ k vs]
      have : k ≠ v := fun e => h e.symm
      simp [this]
theorem wipe_away {is vs : List Nat} {σ σ' : L2.St} (h : AwayFrom is σ σ') (hs : ∀ k ∈ is, k ∈ vs) : wipe σ' vs = wipe σ vs := by
  refine List.ext_getElem? fun k => ?_
  rw [wipe_get, wipe_get]
  by_cases hk : k ∈ vs
  · rw [if_pos hk, if_pos hk]
    by_cases hl : k < σ.length
    · rw [List.getElem?_eq_getElem hl, List.getElem?_eq_getElem (by rw [h.1]; exact hl)]
      rfl
    · have hl2 := h.1
      rw [List.getElem?_eq_none (show σ'.length ≤ k by omega), List.getElem?_eq_none (show σ.length ≤ k by omega)]
  · rw [if_neg hk, if_neg hk]
    exact h.2 k fun z => hk (hs k z)
structure MGJ (X : Cx) (is : List Nat) (tg : Expr) (f : MG) : Prop where
  ex : ∃ t, PG X tg t ∧ ∀ g B0 ρ S H (env env' : MEnv) σ x v Q, Rel (ctx X) g B0 ρ S H → EnvR (ctx X) g (Bad g B0 ρ S) ρ H env σ → RV (ctx X) g (Bad g B0 ρ S) H x v → f x env = some env' →
    (∀ σ', AwayFrom is σ σ' → EnvR (ctx X) g (Bad g B0 ρ S) ρ H env' σ' → Q σ' H) → t v σ H Q
structure MGsJ (X : Cx) (is : List Nat) (tgs : List Expr) (fs : List MG) : Prop where
  ex : ∃ t, PGs X tgs t ∧ ∀ g B0 ρ S H (env env' : MEnv) σ xs vs Q, Rel (ctx X) g B0 ρ S H → EnvR (ctx X) g (Bad g B0 ρ S) ρ H env σ → RVs (ctx X) g (Bad g B0 ρ S) H xs vs → gTupGo fs xs env = some env' →
    (∀ σ', AwayFrom is σ σ' → EnvR (ctx X) g (Bad g B0 ρ S) ρ H env' σ' → Q σ' H) → t vs σ H Q
section
variable {X : Cx} {is : List Nat}
theorem mg_name {i : Nat} {x : Str} {pos : Pos} (hN : X.N.Nodup) (hm : i ∈ is := by first | exact List.mem_cons_self .. | decide) (hi : X.N[i]? = some x := by rfl) (hx : Loc X.env.scope x := by first | exact Or.inl rfl | exact Or.inr rfl)
    (hf : X.fn x = true ∨ X.env.scope.names.lookup x = some .local := by first | exact .inl rfl | exact .inr rfl | assumption) : MGJ X is (.Name x pos) (gN i) := by
  refine ⟨_, pg_name (i := i) hN hi hx hf, fun g B0 ρ S H env env' σ x v Q R N r e k => ?_⟩
  cases e
  refine k _ ⟨by rw [List.length_set], fun j hj => ?_⟩ (N.set i r)
  have hij : i ≠ j := fun z => hj (by rw [← z]; exact hm)
  rw [List.getElem?_set_ne hij]
theorem mgs_nil : MGsJ X is [] [] := by
  refine ⟨_, pgs_nil, fun g B0 ρ S H env env' σ xs vs Q R N r e k => ?_⟩
  cases r with
  | nil =>
    cases e
    exact ⟨rfl, k σ .refl N⟩
  | cons h t => cases e
theorem mgs_cons {e : Expr} {es : List Expr} {f : MG} {fs : List MG} (h1 : MGJ X is e f) (h2 : MGsJ X is es fs) (hs : (assignEach (e :: es) X.env).map (·.2) = assign e X.env :: (assignEach es X.env).map (·.2) := by rfl) : MGsJ X is (e :: es) (f :: fs) := by
  obtain ⟨t1, p1, q1⟩ := h1.ex
  obtain ⟨t2, p2, q2⟩ := h2.ex
  refine ⟨_, pgs_cons p1 p2 hs, fun g B0 ρ S H env env' σ xs vs Q R N r e k => ?_⟩
  cases r with
  | nil => cases e
  | cons h t =>
    rename_i x v xs' vs'
    unfold gTupGo at e
    cases he : f x env with
    | none => rw [he] at e; cases e
    | some env1 =>
      rw [he] at e
      exact ⟨v, vs', rfl, q1 g B0 ρ S H env env1 σ x v _ R N h he fun σ1 a1 N1 => q2 g B0 ρ S H env1 env' σ1 xs' vs' Q R N1 t e fun σ2 a2 N2 => k σ2 (a1.trans a2) N2⟩
theorem mg_tup {es : List Expr} {fs : List MG} {k : Nat} {n : Nat} {pos : Pos} (hc : X.calm = true) (h : MGsJ X is es fs) (hl : fs.length = n := by rfl) (hn : (assignEach es X.env).length = n := by rfl) (hst : (assignEach es X.env).findIdx? (·.1) = none := by rfl) :
    MGJ X is (.Tuple es k pos) (gT fs) := by
  obtain ⟨t, p, q⟩ := h.ex
  refine ⟨_, pg_tup hc p hn hst, fun g B0 ρ S H env env' σ x v Q R N r e kk => ?_⟩
  cases r with
  | tup hq rs =>
    rename_i a vs xs
    have len : ∀ (fs : List MG) (xs : List D) (env env' : MEnv), gTupGo fs xs env = some env' → xs.length = fs.length := by
      intro fs
      induction fs with
      | nil =>
        intro xs env env' e
        cases xs with
        | nil => rfl
        | cons x xs => cases e
      | cons f fs ih =>
        intro xs env env' e
        cases xs with
        | nil => cases e
        | cons x xs =>
          unfold gTupGo at e
          cases he : f x env with
          | none => rw [he] at e; cases e
          | some env1 =>
            rw [he] at e
            exact congrArg (· + 1) (ih xs env1 env' e)
    exact ⟨a, vs, rfl, (.inl (.inl hq)), by rw [← rs.length, len fs xs env env' e, hl], q g B0 ρ S H env env' σ xs vs Q R N rs e kk⟩
  | _ => cases e
end

/-! ### what a loop walks -/
abbrev MI := MEnv → Sto → (List D → (Sto → Prop) → Sto → Prop) → (D → Prop) → Prop
def MonoI (m : MI) : Prop := ∀ env S Q Q' E E', (∀ xs gd S', Q xs gd S' → Q' xs gd S') → (∀ x, E x → E' x) → m env S Q E → m env S Q' E'
/-- the iterator J yields the items, while the store keeps gd -/
structure Walks (C : Cxt) (g : Gh) (B0 : Addr → Prop) (ρ : List Addr) (S : Sto) (H : Hp) (J : It) (items : List D) (gd : Sto → Prop) : Prop where
  stop : ∀ g' B' ρ' S' H', (∀ b, B0 b → B' b) → Rel C g' B' ρ' S' H' → Ext g B0 ρ S H g' ρ' S' H' → gd S' → J.stop items.length H'
  go : ∀ i d g' B' ρ' S' H', (∀ b, B0 b → B' b) → (∀ b o, H b = some o → ¬ Bad g B0 ρ S b → ¬ B' b) → items[i]? = some d → Rel C g' B' ρ' S' H' → Ext g B0 ρ S H g' ρ' S' H' → gd S' → J.go i H' ∧
    ∀ x H2, J.yld i H' x H2 → Rel C g' B' ρ' S' H2 ∧ Ext g' B' ρ' S' H' g' ρ' S' H2 ∧ RV C g' (Bad g' B' ρ' S') H2 d x
def tMI (C : Cxt) (E : XK) (m : MI) : TI := fun σ H R' => ∃ g B0 ρ env S, Rel C g B0 ρ S H ∧ EnvR C g (Bad g B0 ρ S) ρ H env σ ∧
  m env S (fun xs gd S1 => ∀ g' ρ' H' J, Rel C g' B0 ρ' S1 H' → Ext g B0 ρ S H g' ρ' S1 H' → Walks C g' B0 ρ' S1 H' J xs gd → R' J H') (XPost C E g B0 ρ S H)
structure MIJ (E : XK) (X : Cx) (tg iter : Expr) (m : MI) : Prop where
  pi : PI X tg iter (tMI (ctx X) E m)
  mono : MonoI m
theorem PI.imp {X : Cx} {tg iter : Expr} {t t' : TI} (h : PI X tg iter t) (i : ∀ σ H R, t' σ H R → t σ H R) : PI X tg iter t' := ⟨fun pins s σ H R I q => h.run pins s σ H R I (i σ H R q)⟩
end RW
/-! RwLoops: for, while, list comprehensions. -/
namespace RW
open PySem PySem.Spec PyProof.Rows L2
variable [Tbl]

section
variable {C : Cxt} {g g' : Gh} {B0 B' : Addr → Prop} {ρ ρ' : List Addr} {S S' : Sto} {H H' : Hp} {items : List D} {a : Addr}
theorem Ext.re (e : Ext g B0 ρ S H g' ρ' S' H') (B : Addr → Prop) : Ext g B ρ S H g' ρ' S' H' := ⟨e.imm, e.keep, e.own, e.gh, e.pre⟩
/-- data that stood outside what is bad, seen later (what is bad may have grown by new things) -/
theorem Ext.upB (e : Ext g B0 ρ S H g' ρ' S' H') (n : ∀ b o, H b = some o → ¬ Bad g B0 ρ S b → ¬ B' b) : Up g (Bad g B0 ρ S) H g' (Bad g' B' ρ' S') H' where
  imm := e.imm
  keep := fun b o h nb => ⟨e.keep b o h fun z => nb (.inr z), fun z => z.elim (n b o h nb) (e.own b o h fun z => nb (.inr z))⟩
  gh := e.gh
theorem NdL.here (e : Ext g B0 ρ S H g' ρ' S' H') {vs : List V} (h : NdL C (Bad g B0 ρ S) H a vs) : SqL C.K H' a vs := by
  rcases h with ⟨h, n⟩ | ⟨o, h⟩ | h
  · exact .inl (.inl (e.keep _ _ h fun z => n (.inr z)))
  · exact .inl (.inr ⟨o, e.imm _ _ h trivial⟩)
  · exact .inr h
theorem SqT.here (e : Ext g B0 ρ S H g' ρ' S' H') {vs : List V} (h : SqT C.K H a vs) : SqT C.K H' a vs := by
  rcases h with (h | ⟨o, h⟩) | h
  · exact .inl (.inl (e.imm _ _ h trivial))
  · exact .inl (.inr ⟨o, e.imm _ _ h trivial⟩)
  · exact .inr h
theorem walks_list {vs : List V} (h : NdL C (Bad g B0 ρ S) H a vs) (r : RVs C g (Bad g B0 ρ S) H items vs) (gd : Sto → Prop) : Walks C g B0 ρ S H (Itl C.K a) items gd := by
  refine ⟨fun g' B' ρ' S' H' _ R e _ => ⟨vs, h.here e, by rw [← r.length]; exact Nat.le_refl _⟩, fun i d g' B' ρ' S' H' _ n hi R e _ => ?_⟩
  obtain ⟨v, hv, rv⟩ := r.get hi
  refine ⟨⟨vs, v, h.here e, hv⟩, fun x H2 ⟨eH, y⟩ => ?_⟩
  subst eH
  have := y vs (h.here e)
  rw [hv] at this
  cases this
  exact ⟨R, Ext.refl, rv.mono (e.upB n)⟩
theorem walks_tup {vs : List V} (h : SqT C.K H a vs) (r : RVs C g (Bad g B0 ρ S) H items vs) (gd : Sto → Prop) : Walks C g B0 ρ S H (Itt C.K a) items gd := by
  refine ⟨fun g' B' ρ' S' H' _ R e _ => ⟨vs, SqT.here e h, by rw [← r.length]; exact Nat.le_refl _⟩, fun i d g' B' ρ' S' H' _ n hi R e _ => ?_⟩
  obtain ⟨v, hv, rv⟩ := r.get hi
  refine ⟨⟨vs, v, SqT.here e h, hv⟩, fun x H2 ⟨eH, y⟩ => ?_⟩
  subst eH
  have := y vs (SqT.here e h)
  rw [hv] at this
  cases this
  exact ⟨R, Ext.refl, rv.mono (e.upB n)⟩
def rangeD (lo : Int) (n : Nat) : List D := (List.range n).map fun (i : Nat) => D.int (lo + (i : Int))
theorem walks_range {lo : Int} {n : Nat} (gd : Sto → Prop) : Walks C g B0 ρ S H (Itr lo n) (rangeD lo n) gd := by
  refine ⟨fun g' B' ρ' S' H' _ R e _ => by show n ≤ (rangeD lo n).length; simp [rangeD], fun i d g' B' ρ' S' H' _ nn hi R e _ => ?_⟩
  have hl : i < n := by
    have := (List.getElem?_eq_some_iff.mp hi).1
    simpa [rangeD] using this
  have hd : d = .int (lo + (i : Int)) := by
    unfold rangeD at hi
    rw [List.getElem?_map, List.getElem?_range hl] at hi
    exact (Option.some.inj hi).symm
  subst hd
  exact ⟨hl, fun x H2 ⟨eH, ex⟩ => by
    subst eH ex
    exact ⟨R, Ext.refl, .int _⟩⟩
/-- a list of the store, while it stands -/
theorem walks_ref {i0 : Nat} {ws : List W} (hi : ρ[i0]? = some a) (hw : datas ws = some items) : Walks C g B0 ρ S H (Itl C.K a) items (fun S' => S'[i0]? = some (.lst ws)) := by
  have get : ∀ {g' : Gh} {B' : Addr → Prop} {ρ' : List Addr} {S' : Sto} {H' : Hp}, Rel C g' B' ρ' S' H' → Ext g B0 ρ S H g' ρ' S' H' → S'[i0]? = some (.lst ws) → ∃ vs, H' a = some (.lst vs) ∧ RVs C g' (Bad g' B' ρ' S') H' items vs := by
    intro g' B' ρ' S' H' R e gd
    obtain ⟨t, rfl⟩ := e.pre
    obtain ⟨vs, h1, h2⟩ := R.obj i0 _ a gd (by rw [List.getElem?_append_left (List.getElem?_eq_some_iff.mp hi).1]; exact hi)
    exact ⟨vs, h1, Paired.rws h2 hw⟩
  refine ⟨fun g' B' ρ' S' H' _ R e gd => ?_, fun i d g' B' ρ' S' H' _ n hd R e gd => ?_⟩
  · obtain ⟨vs, h1, h2⟩ := get R e gd
    exact ⟨vs, .inl (.inl h1), by rw [← h2.length]; exact Nat.le_refl _⟩
  · obtain ⟨vs, h1, h2⟩ := get R e gd
    obtain ⟨v, hv, rv⟩ := h2.get hd
    refine ⟨⟨vs, v, .inl (.inl h1), hv⟩, fun x H2 ⟨eH, y⟩ => ?_⟩
    subst eH
    have := y vs (.inl (.inl h1))
    rw [hv] at this
    cases this
    exact ⟨R, Ext.refl, rv⟩
/-- enumerate: a new pair each turn -/
def enumD (xs : List D) : List D := List.zipWith (fun (i : Nat) (x : D) => D.tup [.int (i : Int), x]) (List.range xs.length) xs
theorem enumD_get (xs : List D) (i : Nat) : (enumD xs)[i]? = (xs[i]?).map fun x => D.tup [.int (i : Int), x] := by
  unfold enumD
  rw [List.getElem?_zipWith]
  by_cases h : i < xs.length
  · rw [List.getElem?_range h, List.getElem?_eq_getElem h]
    rfl
  · rw [List.getElem?_eq_none (by simpa using h), List.getElem?_eq_none (show xs.length ≤ i by omega)]
    rfl
theorem enumD_length (xs : List D) : (enumD xs).length = xs.length := by simp [enumD]
theorem walks_enum {vs : List V} (h : NdL C (Bad g B0 ρ S) H a vs) (r : RVs C g (Bad g B0 ρ S) H items vs) (gd : Sto → Prop) : Walks C g B0 ρ S H (Ite C.K a) (enumD items) gd := by
  refine ⟨fun g' B' ρ' S' H' _ R e _ => ⟨vs, h.here e, by rw [← r.length, enumD_length]; exact Nat.le_refl _⟩, fun i d g' B' ρ' S' H' _ n hi R e _ => ?_⟩
  rw [enumD_get] at hi
  cases hx : items[i]? with
  | none => rw [hx] at hi; cases hi
  | some x =>
    rw [hx] at hi
    cases hi
    obtain ⟨v, hv, rv⟩ := r.get hx
    refine ⟨⟨vs, v, h.here e, hv⟩, fun y H2 ⟨T, x', ey, hT, eH, yy⟩ => ?_⟩
    have := yy vs (h.here e)
    rw [hv] at this
    cases this
    subst eH ey
    obtain ⟨R2, e2, _⟩ := R.new (o := .tup [.int (i : Int), v]) hT
    exact ⟨R2, e2, .tup upd_same (.cons (.int _) (.cons (RV.mono e2.up (rv.mono (e.upB n))) .nil))⟩
end

/-! ### iterables -/
def mItems (m : MX) : MI := fun env S Q E => m env S (fun w S1 => match w with
  | .d (.lst xs) => Q xs (fun _ => True) S1
  | .d (.tup xs) => Q xs (fun _ => True) S1
  | .ref i => (match S1[i]? with
    | some (.lst ws) => ∃ xs, datas ws = some xs ∧ Q xs (fun S' => S'[i]? = some (.lst ws)) S1
    | _ => False)
  | _ => False) E
def iSeq (K : PySem.W.Frag) (tl : TE) : TI := fun σ H R => tl σ H fun x H1 => ∃ a, x = .ref a ∧ (((∃ xs, SqL K H1 a xs) ∧ R (Itl K a) H1) ∨ ((∃ xs, SqT K H1 a xs) ∧ R (Itt K a) H1))
section
variable {X : Cx} {tg : Expr}
theorem pi_seq {l : Expr} {tl : TE} (hl : PE X l tl) : PI X tg l (iSeq X.K tl) := by
  refine ⟨fun pins s σ H R I h => ?_⟩
  refine thn (hl.run pins s σ H _ I h) fun v s1 ⟨x, H1, I1, r1, q1⟩ => ?_
  obtain ⟨a, e, q⟩ := q1
  subst e
  cases r1
  rcases q with ⟨⟨xs, hq⟩, q⟩ | ⟨⟨xs, hq⟩, q⟩
  · obtain ⟨its, rv, p, hz⟩ := I1.list hq
    refine wpAny_pyIter_list p.isList ?_
    refine ⟨s1.heap.objs.size, [s1.heap.objs.size], _, _, H1, rfl, I1.kept (t' := s1.toks) fun b o e => Heap.get?_push_of_some _ e, turn_list a _, ⟨_, Heap.get?_push_size _ rfl, rfl, rfl⟩, fun b hb => ?_, q⟩
    have e : b = s1.heap.objs.size := by simpa using hb
    subst e
    exact I1.fpOk (Nat.le_refl _) (I1.hok.fresh (Nat.le_refl _))
  · obtain ⟨its, rv, p, hz⟩ := I1.tuple hq
    refine wpAny_pyIter_tuple (show s1.heap.IsTuple a its.toArray from p) ?_
    refine ⟨s1.heap.objs.size, [s1.heap.objs.size], _, _, H1, rfl, I1.kept (t' := s1.toks) fun b o e => Heap.get?_push_of_some _ e, turn_tuple a _, ⟨_, Heap.get?_push_size _ rfl, rfl, rfl⟩, fun b hb => ?_, q⟩
    have e : b = s1.heap.objs.size := by simpa using hb
    subst e
    exact I1.fpOk (Nat.le_refl _) (I1.hok.fresh (Nat.le_refl _))
end
section
variable {E : XK} {X : Cx} {tg : Expr} {e : Expr} {es : List Expr} {m : MX} {t : MA} {pos : Pos}
theorem mi_items (he : ME E X e m) : MIJ E X tg e (mItems m) := by
  refine ⟨PI.imp (pi_seq he.pe) fun σ H R' ⟨g, B0, ρ, env, S, R, N, q⟩ => ?_, fun env S Q Q' E E' h hx q => he.mono _ _ _ _ _ _ (fun w S' z => ?_) hx q⟩
  · refine tM.go he.mono R N q (fun _ z => z) fun w S1 q1 g1 ρ1 H1 v1 R1 e1 r1 => ?_
    cases w with
    | d x =>
      cases x with
      | lst xs =>
        cases (show RV _ _ _ _ (.lst xs) v1 from r1) with
        | lst hn rs => exact ⟨_, rfl, .inl ⟨⟨_, hn.sq⟩, q1 g1 ρ1 H1 _ R1 e1 (walks_list (C := ctx X) hn rs _)⟩⟩
      | tup xs =>
        cases (show RV _ _ _ _ (.tup xs) v1 from r1) with
        | tup hn rs => exact ⟨_, rfl, .inr ⟨⟨_, .inl (.inl hn)⟩, q1 g1 ρ1 H1 _ R1 e1 (walks_tup (C := ctx X) (.inl (.inl hn)) rs _)⟩⟩
      | _ => exact q1.elim
    | ref i =>
      obtain ⟨a, ha, ev⟩ := r1
      subst ev
      simp only at q1
      split at q1
      · rename_i ws hs
        obtain ⟨xs, hx, q1⟩ := q1
        obtain ⟨vs, h1, h2⟩ := R1.obj i _ a hs ha
        exact ⟨a, rfl, .inl ⟨⟨vs, .inl (.inl h1)⟩, q1 g1 ρ1 H1 _ R1 e1 (walks_ref (C := ctx X) ha hx)⟩⟩
      · exact q1.elim
  · cases w with
    | d x => cases x <;> first | exact h _ _ _ z | exact z
    | ref i =>
      simp only at z ⊢
      split at z
      · obtain ⟨xs, a, b⟩ := z
        exact ⟨xs, a, h _ _ _ b⟩
      · exact z.elim
def mRange1 (t : MA) : MI := fun env S Q E => t env S (fun ws S1 => ∃ n, ws = [.d (.int n)] ∧ (-(2 ^ 62) ≤ n ∧ n < 2 ^ 62) ∧ Q (rangeD 0 n.toNat) (fun _ => True) S1) E
def mRange2 (t : MA) : MI := fun env S Q E => t env S (fun ws S1 => ∃ lo hi, ws = [.d (.int lo), .d (.int hi)] ∧ (-(2 ^ 62) ≤ lo ∧ lo < 2 ^ 62 ∧ -(2 ^ 62) ≤ hi ∧ hi < 2 ^ 62) ∧ Q (rangeD lo (hi - lo).toNat) (fun _ => True) S1) E
theorem mi_range1 {a : Expr} {p : Pos} (hm : X.mg "range" = none) (ht : MAJ E X [a] t) (hg : Gl X "range" := by rfl) (hs : starEach [a] X.env = [(false, eval a X.env)] := by rfl) : MIJ E X tg (.Call (.Name "range" p) [a] [] pos) (mRange1 t) := by
  refine ⟨PI.imp (pi_range1 hg hm ht.pa hs) fun σ H R' ⟨g, B0, ρ, env, S, R, N, q⟩ => ?_, fun env S Q Q' E E' h hx q => ht.mono _ _ _ _ _ _ (fun w S' ⟨n, a, b, c⟩ => ⟨n, a, b, h _ _ _ c⟩) hx q⟩
  refine tMA.go ht.mono R N q (fun _ z => z) fun ws S1 ⟨n, ew, hb, q1⟩ g1 ρ1 H1 vs R1 e1 r1 => ?_
  subst ew
  cases r1 with
  | cons ra rn =>
    cases rn
    cases (show RV _ _ _ _ (.int n) _ from ra)
    exact ⟨n, rfl, hb.1, hb.2, q1 g1 ρ1 H1 _ R1 e1 (walks_range _)⟩
theorem mi_range2 {a b : Expr} {p : Pos} (hm : X.mg "range" = none) (ht : MAJ E X [a, b] t) (hg : Gl X "range" := by rfl) (hs : starEach [a, b] X.env = [(false, eval a X.env), (false, eval b X.env)] := by rfl) (hs2 : starEach [b] X.env = [(false, eval b X.env)] := by rfl) :
    MIJ E X tg (.Call (.Name "range" p) [a, b] [] pos) (mRange2 t) := by
  refine ⟨PI.imp (pi_range2 hg hm ht.pa hs hs2) fun σ H R' ⟨g, B0, ρ, env, S, R, N, q⟩ => ?_, fun env S Q Q' E E' h hx q => ht.mono _ _ _ _ _ _ (fun w S' ⟨n, k, a, b, c⟩ => ⟨n, k, a, b, h _ _ _ c⟩) hx q⟩
  refine tMA.go ht.mono R N q (fun _ z => z) fun ws S1 ⟨lo, hi, ew, hb, q1⟩ g1 ρ1 H1 vs R1 e1 r1 => ?_
  subst ew
  cases r1 with
  | cons ra rn =>
    cases rn with
    | cons rb rn =>
      cases rn
      cases (show RV _ _ _ _ (.int lo) _ from ra)
      cases (show RV _ _ _ _ (.int hi) _ from rb)
      exact ⟨lo, hi, rfl, hb, q1 g1 ρ1 H1 _ R1 e1 (walks_range _)⟩
def mEnum (t : MA) : MI := fun env S Q E => t env S (fun ws S1 => ∃ xs, ws = [.d (.lst xs)] ∧ Q (enumD xs) (fun _ => True) S1) E
theorem mi_enum {a : Expr} {p tpos : Pos} {elts : List Expr} {kk : Nat} (hm : X.mg "enumerate" = none) (ht : MAJ E X [a] t) (hg : Gl X "enumerate" := by rfl) (hs : starEach [a] X.env = [(false, eval a X.env)] := by rfl) :
    MIJ E X (.Tuple elts kk tpos) (.Call (.Name "enumerate" p) [a] [] pos) (mEnum t) := by
  refine ⟨PI.imp (pi_enum hg hm ht.pa hs) fun σ H R' ⟨g, B0, ρ, env, S, R, N, q⟩ => ?_, fun env S Q Q' E E' h hx q => ht.mono _ _ _ _ _ _ (fun w S' ⟨n, a, b⟩ => ⟨n, a, h _ _ _ b⟩) hx q⟩
  refine tMA.go ht.mono R N q (fun _ z => z) fun ws S1 ⟨xs, ew, q1⟩ g1 ρ1 H1 vs R1 e1 r1 => ?_
  subst ew
  cases r1 with
  | cons ra rn =>
    cases rn
    cases (show RV _ _ _ _ (.lst xs) _ from ra) with
    | lst hn rs => exact ⟨_, _, rfl, hn.sq, q1 g1 ρ1 H1 _ R1 e1 (walks_enum (C := ctx X) hn rs _)⟩
end

/-! ### for -/
def loopM (gd : Sto → Prop) (step : D → MS) (K : MEnds) : List D → MEnv → Sto → Prop
  | [], env, S => gd S ∧ K.nx env S
  | x :: xs, env, S => gd S ∧ step x { K with nx := loopM gd step K xs, ct := loopM gd step K xs, bk := K.nx } env S
def sTgt (f : MG) (body : MS) : D → MS := fun x K env S => ∃ env', f x env = some env' ∧ body K env' S
def sFor (mi : MI) (f : MG) (body : MS) : MS := fun K env S => mi env S (fun items gd S1 => loopM gd (sTgt f body) K items env S1) K.ex
theorem mono_loop {gd : Sto → Prop} {step : D → MS} (hs : ∀ x, MonoS (step x)) {K K' : MEnds} (k : MEnds.Le K K') : ∀ (xs : List D) (env : MEnv) (S : Sto), loopM gd step K xs env S → loopM gd step K' xs env S
  | [], env, S, h => ⟨h.1, k.nx _ _ h.2⟩
  | x :: xs, env, S, h => ⟨h.1, hs x { K with nx := loopM gd step K xs, ct := loopM gd step K xs, bk := K.nx } { K' with nx := loopM gd step K' xs, ct := loopM gd step K' xs, bk := K'.nx } env S ⟨fun _ _ z => mono_loop hs k xs _ _ z, k.rt, fun _ _ z => k.nx _ _ z, fun _ _ z => mono_loop hs k xs _ _ z, k.ex⟩ h.2⟩
theorem mono_tgt {f : MG} {body : MS} (h : MonoS body) (x : D) : MonoS (sTgt f body x) := fun K K' env S k ⟨e, a, b⟩ => ⟨e, a, h _ _ _ _ k b⟩
section
variable {E : XK} {X : Cx} {tg iter : Expr} {body : List Stmt} {mi : MI} {f : MG} {is : List Nat} {b : MS} {pos : Pos}
theorem ms_for (hp : PassesOwn (model X.prog X.w) X.A X.env X.xe) (hc : X.calm = true) (hi : MIJ E X tg iter mi) (hg : MGJ X is tg f) (hb : MSs E X body b) (hs : ∀ x, foldedSetIterable iter X.env x = pure x := by intro _; rfl) :
    MSJ E X (.For tg iter body [] pos) (sFor mi f b) := by
  obtain ⟨t, pg, gq⟩ := hg.ex
  refine ⟨PS.imp (ps_for hp hc hi.pi pg hb.ps hs) fun D' σ H ⟨g, B0, ρ, env, S, R, N, q⟩ => ?_, fun K K' env S k h => hi.mono _ _ _ _ _ _ (fun xs gd S' z => mono_loop (mono_tgt hb.mono) k xs env S' z) k.ex h⟩
  refine ⟨g, B0, ρ, env, S, R, N, hi.mono _ _ _ _ _ _ (fun items gd S1 q1 g1 ρ1 H1 J R1 e1 wk => ?_) (fun _ z => z) q⟩
  let K := endsOf (ctx X) E g B0 ρ S H D'
  refine ⟨fun i m σ' H' => m = items.length - i ∧ i ≤ items.length ∧ ∃ g' ρ' env' S', Rel (ctx X) g' B0 ρ' S' H' ∧ Ext g1 B0 ρ1 S1 H1 g' ρ' S' H' ∧ EnvR (ctx X) g' (Bad g' B0 ρ' S') ρ' H' env' σ' ∧ loopM gd (sTgt f b) K (items.drop i) env' S',
    ⟨items.length, by omega, Nat.zero_le _, g1, ρ1, env, S1, R1, Ext.refl, N.ext e1, by rw [List.drop_zero]; exact q1⟩, ?_⟩
  rintro i m σ' H' ⟨rfl, hi', g', ρ', env', S', R', e', N', q'⟩
  by_cases hl : i < items.length
  · rw [List.drop_eq_getElem_cons hl] at q'
    obtain ⟨gd', env2, hf, q'⟩ := q'
    obtain ⟨hgo, hy⟩ := wk.go i items[i] g' B0 ρ' S' H' (fun _ z => z) (fun b o _ n z => n (.inl z)) (List.getElem?_eq_getElem hl) R' e' gd'
    refine .inr ⟨hgo, fun σ2 H2 => ∃ g2 ρ2 env2 S2, Rel (ctx X) g2 B0 ρ2 S2 H2 ∧ Ext g1 B0 ρ1 S1 H1 g2 ρ2 S2 H2 ∧ EnvR (ctx X) g2 (Bad g2 B0 ρ2 S2) ρ2 H2 env2 σ2 ∧ loopM gd (sTgt f b) K (items.drop (i + 1)) env2 S2,
      fun σ2 H2 ⟨g2, ρ2, env2, S2, R2, e2, N2, q2⟩ => ⟨items.length - (i + 1), by omega, rfl, hl, g2, ρ2, env2, S2, R2, e2, N2, q2⟩, fun x H3 y => ?_⟩
    obtain ⟨R3, e3, r3⟩ := hy x H3 y
    refine gq g' B0 ρ' S' H3 env' env2 σ' items[i] x _ R3 (N'.ext e3) r3 hf fun σ4 _ N4 => ?_
    have eAll := ((e1.trans e').trans e3)
    have e13 := e'.trans e3
    refine tMS.go hb.mono R3 N4 q' ⟨fun env5 S5 z g5 ρ5 H5 σ5 R5 e5 N5 => ⟨g5, ρ5, env5, S5, R5, e13.trans e5, N5, z⟩, fun x z g5 ρ5 S5 H5 v R5 e5 r5 => z g5 ρ5 S5 H5 v R5 (eAll.trans e5) r5, fun env5 S5 z => z.ext eAll, fun env5 S5 z g5 ρ5 H5 σ5 R5 e5 N5 => ⟨g5, ρ5, env5, S5, R5, e13.trans e5, N5, z⟩, fun x z => z.ext eAll⟩
  · have ei : i = items.length := by omega
    subst ei
    rw [List.drop_length] at q'
    exact .inl ⟨wk.stop g' B0 ρ' S' H' (fun _ z => z) R' e' q'.1, q'.2 g' ρ' H' σ' R' (e1.trans e') N'⟩
/-- while, by a word and a measure -/
def sWhile (t : MT) (b : MS) : MS := fun K env S => ∃ Wd : Nat → MEnv → Sto → Prop, (∃ m, Wd m env S) ∧ ∀ m env S, Wd m env S → t env S (fun k S1 => if k = true then
    b { K with nx := fun e' S' => ∃ m', m' < m ∧ Wd m' e' S', ct := fun e' S' => ∃ m', m' < m ∧ Wd m' e' S', bk := K.nx } env S1 else K.nx env S1) K.ex
theorem ms_while {c : Expr} {t : MT} (hp : PassesOwn (model X.prog X.w) X.A X.env X.xe) (hc : MTJ E X c t) (hb : MSs E X body b) : MSJ E X (.While c body [] pos) (sWhile t b) := by
  refine ⟨PS.imp (ps_while hp hc.pt hb.ps) fun D' σ H ⟨g, B0, ρ, env, S, R, N, Wd, ⟨m0, w0⟩, turn⟩ => ?_, fun K K' env S k ⟨Wd, a, turn⟩ => ⟨Wd, a, fun m e S z => hc.mono _ _ _ _ _ _ (fun kk S1 y => by
    cases kk with
    | true => exact hb.mono { K with nx := fun e' S' => ∃ m', m' < m ∧ Wd m' e' S', ct := fun e' S' => ∃ m', m' < m ∧ Wd m' e' S', bk := K.nx } { K' with nx := fun e' S' => ∃ m', m' < m ∧ Wd m' e' S', ct := fun e' S' => ∃ m', m' < m ∧ Wd m' e' S', bk := K'.nx } e S1 ⟨fun _ _ u => u, k.rt, fun _ _ u => k.nx _ _ u, fun _ _ u => u, k.ex⟩ y
    | false => exact k.nx _ _ y) k.ex (turn m e S z)⟩⟩
  refine ⟨fun m σ' H' => ∃ g' ρ' env' S', Rel (ctx X) g' B0 ρ' S' H' ∧ Ext g B0 ρ S H g' ρ' S' H' ∧ EnvR (ctx X) g' (Bad g' B0 ρ' S') ρ' H' env' σ' ∧ Wd m env' S', ⟨m0, g, ρ, env, S, R, Ext.refl, N, w0⟩, ?_⟩
  rintro m σ' H' ⟨g', ρ', env', S', R', e', N', w'⟩
  refine tMT.go hc.mono R' N' (turn m env' S' w') (fun x z => z.ext e') fun k S2 q2 g2 ρ2 H2 R2 e2 => ?_
  have eA := e'.trans e2
  cases k with
  | true =>
    refine ⟨fun σ3 H3 => ∃ m', m' < m ∧ ∃ g' ρ' env' S', Rel (ctx X) g' B0 ρ' S' H3 ∧ Ext g B0 ρ S H g' ρ' S' H3 ∧ EnvR (ctx X) g' (Bad g' B0 ρ' S') ρ' H3 env' σ3 ∧ Wd m' env' S', fun σ3 H3 z => z, ?_⟩
    exact tMS.go hb.mono R2 (N'.ext e2) q2 ⟨fun env5 S5 ⟨m', hm, z⟩ g5 ρ5 H5 σ5 R5 e5 N5 => ⟨m', hm, g5, ρ5, env5, S5, R5, eA.trans e5, N5, z⟩, fun x z g5 ρ5 S5 H5 v R5 e5 r5 => z g5 ρ5 S5 H5 v R5 (eA.trans e5) r5, fun env5 S5 z => z.ext eA, fun env5 S5 ⟨m', hm, z⟩ g5 ρ5 H5 σ5 R5 e5 N5 => ⟨m', hm, g5, ρ5, env5, S5, R5, eA.trans e5, N5, z⟩, fun x z => z.ext eA⟩
  | false => exact q2 g2 ρ2 H2 σ' R2 eA (N'.ext e2)
end
end RW
/-! RwComp: list comprehensions. -/
namespace RW
open PySem PySem.Spec PyProof.Rows L2
variable [Tbl]

def wipeM : MEnv → List Nat → MEnv
  | env, [] => env
  | env, v :: vs => (wipeM env vs).set v none
section
variable {C : Cxt} {g g' g1 : Gh} {B0 B' : Addr → Prop} {ρ ρ' ρ1 : List Addr} {S S' S1 : Sto} {H H' H1 : Hp} {env : MEnv} {σ : L2.St}
theorem EnvR.wipe (h : EnvR C g (Bad g B0 ρ S) ρ H env σ) : ∀ vs : List Nat, EnvR C g (Bad g B0 ρ S) ρ H (wipeM env vs) (L2.wipe σ vs)
  | [] => h
  | v :: vs => (EnvR.wipe h vs).unset v none
theorem EnvR.upB (e : Ext g B0 ρ S H g' ρ' S' H') (n : ∀ b o, H b = some o → ¬ Bad g B0 ρ S b → ¬ B' b) (h : EnvR C g (Bad g B0 ρ S) ρ H env σ) : EnvR C g' (Bad g' B' ρ' S') ρ' H' env σ :=
  ⟨h.1, fun i w hw => let ⟨v, a, b⟩ := h.2 i w hw; ⟨v, a, b.mono (e.upB n) e.pre⟩⟩
theorem wipe_idem (σ : L2.St) (vs : List Nat) : L2.wipe (L2.wipe σ vs) vs = L2.wipe σ vs := by
  refine List.ext_getElem? fun k => ?_
  rw [wipe_get, wipe_get]
  by_cases hk : k ∈ vs
  · rw [if_pos hk, if_pos hk]
    cases σ[k]? <;> rfl
  · rw [if_neg hk, if_neg hk]
/-- a fresh list is laid and protected -/
theorem Rel.guard (R : Rel C g B0 ρ S H) {p : Addr} {o : HO} (h : H p = none) : Rel C g (fun b => B0 b ∨ b = p) ρ S (upd H p o) ∧ ¬ Own g ρ S p := by
  have nb := R.newBad h
  have k : ∀ b u, H b = some u → upd H p o b = some u := fun b u e => by rw [upd_ne (ne_of_none e h)]; exact e
  have U : Up g (Bad g B0 ρ S) H g (Bad g (fun b => B0 b ∨ b = p) ρ S) (upd H p o) := ⟨fun b u e _ => k b u e, fun b u e n => ⟨k b u e, fun z => by
    rcases z with (z | z) | z
    · exact n (.inl z)
    · exact ne_of_none e h z
    · exact n (.inr z)⟩, .refl⟩
  refine ⟨⟨R.len, fun i u a h1 h2 => (R.obj i u a h1 h2).mono U ⟨[], by simp⟩ fun u e _ => k _ _ e, R.inj, fun i u a h1 h2 h3 => ⟨fun z => ?_, (R.out i u a h1 h2 h3).2⟩, fun a z => ?_, R.dr.keep fun b u _ e => k b u e⟩, fun z => nb (.inr z)⟩
  · rcases z with z | z
    · exact (R.out i u a h1 h2 h3).1 z
    · exact nb (z ▸ .inr (.inr ⟨i, u, h1, h2, h3⟩))
  · rcases z with z | z
    · obtain ⟨u, e⟩ := R.b0 a z
      exact ⟨u, k _ _ e⟩
    · exact ⟨o, by rw [z, upd_same]⟩
theorem Ext.writeNew (e : Ext g B0 ρ S H g' ρ' S' H') {p : Addr} {o : HO} (h : H p = none) : Ext g B0 ρ S H g' ρ' S' (upd H' p o) :=
  ⟨fun b u a i => by rw [upd_ne (ne_of_none a h)]; exact e.imm b u a i, fun b u a n => by rw [upd_ne (ne_of_none a h)]; exact e.keep b u a n, e.own, e.gh, e.pre⟩
/-- a protected list is written -/
theorem Rel.writeB (R : Rel C g B0 ρ S H) {p : Addr} {u0 u : HO} (hb : B0 p) (no : ¬ Own g ρ S p) (h : H p = some u0) (nI : ¬ Imm u0) : Rel C g B0 ρ S (upd H p u) ∧ Up g (Bad g B0 ρ S) H g (Bad g B0 ρ S) (upd H p u) := by
  have k : ∀ b v, H b = some v → b ≠ p → upd H p u b = some v := fun b v e n => by rw [upd_ne n]; exact e
  have U : Up g (Bad g B0 ρ S) H g (Bad g B0 ρ S) (upd H p u) := ⟨fun b v e i => k b v e fun z => by rw [z, h] at e; cases e; exact nI i, fun b v e n => ⟨k b v e fun z => n (z ▸ .inl hb), n⟩, .refl⟩
  refine ⟨⟨R.len, fun i v a h1 h2 => (R.obj i v a h1 h2).mono U ⟨[], by simp⟩ fun v' e l => k _ _ e fun z => no (z ▸ .inr ⟨i, v, h1, l, h2⟩), R.inj, R.out, fun a z => ?_, R.dr.keep fun b v d e => k b v e fun z => d.elim (fun d => no (z ▸ .inl d)) fun im => by rw [z, h] at e; cases e; exact nI im⟩, U⟩
  by_cases ha : a = p
  · exact ⟨u, by rw [ha, upd_same]⟩
  · obtain ⟨v, e⟩ := R.b0 a z
    exact ⟨v, k _ _ e ha⟩
theorem Rel.dropB (R : Rel C g B' ρ S H) (i : ∀ b, B0 b → B' b) : Rel C g B0 ρ S H :=
  ⟨R.len, fun j o a h1 h2 => (R.obj j o a h1 h2).mono (Up.weak fun b z => z.elim (fun z => .inl (i b z)) .inr) ⟨[], by simp⟩ fun _ e _ => e, R.inj, fun j o a h1 h2 h3 => ⟨fun z => (R.out j o a h1 h2 h3).1 (i a z), (R.out j o a h1 h2 h3).2⟩, fun a z => R.b0 a (i a z), R.dr⟩
/-- a protected list comes into the store -/
theorem Rel.adopt {p : Addr} {vs : List V} {ws : List W} (R : Rel C g (fun b => B0 b ∨ b = p) ρ S H) (n0 : ¬ B0 p) (no : ¬ Own g ρ S p) (h : H p = some (.lst vs)) (r : Paired (RW C g (Bad g (fun b => B0 b ∨ b = p) ρ S) ρ H) ws vs) :
    Rel C g B0 (ρ ++ [p]) (S ++ [.lst ws]) H ∧ Ext g B0 ρ S (fun b => if b = p then none else H b) g (ρ ++ [p]) (S ++ [.lst ws]) H := by
  have gS : ∀ {i : Nat} {x : O}, (S ++ [O.lst ws])[i]? = some x → (i < S.length ∧ S[i]? = some x) ∨ (i = S.length ∧ x = .lst ws) := fun {i x} e => by
    by_cases hi : i < S.length
    · rw [List.getElem?_append_left hi] at e
      exact .inl ⟨hi, e⟩
    · rw [List.getElem?_append_right (by omega)] at e
      have : i - S.length = 0 := by
        have := (List.getElem?_eq_some_iff.mp e).1
        simp at this
        omega
      rw [this] at e
      exact .inr ⟨by omega, by simpa using e.symm⟩
  have gR : ∀ {i : Nat} {a : Addr}, i < S.length → ((ρ ++ [p])[i]? = some a ↔ ρ[i]? = some a) := fun {i a} hi => by rw [List.getElem?_append_left (by rw [R.len]; exact hi)]
  have gP : ∀ {a : Addr}, (ρ ++ [p])[S.length]? = some a → a = p := fun {a} e => by
    rw [← R.len, List.getElem?_append_right (Nat.le_refl _), Nat.sub_self] at e
    simpa using e.symm
  have ownI : ∀ b, Own g (ρ ++ [p]) (S ++ [.lst ws]) b → Own g ρ S b ∨ b = p := fun b z => by
    rcases z with z | ⟨i, x, h1, h2, h3⟩
    · exact .inl (.inl z)
    · rcases gS h1 with ⟨hi, e⟩ | ⟨rfl, rfl⟩
      · exact .inl (.inr ⟨i, x, e, h2, (gR hi).mp h3⟩)
      · exact .inr (gP h3)
  have U : Up g (Bad g (fun b => B0 b ∨ b = p) ρ S) H g (Bad g B0 (ρ ++ [p]) (S ++ [.lst ws])) H := ⟨fun _ _ e _ => e, fun b o e n => ⟨e, fun z => by
    rcases z with z | z
    · exact n (.inl (.inl z))
    · rcases ownI b z with z | z
      · exact n (.inr z)
      · exact n (.inl (.inr z))⟩, .refl⟩
  refine ⟨⟨by rw [List.length_append, List.length_append, R.len]; rfl, fun i x a h1 h2 => ?_, fun i j x y a h1 h2 h3 h4 h5 h6 => ?_, fun i x a h1 h2 h3 => ?_, fun a z => R.b0 a (.inl z), R.dr⟩, ⟨fun b o e _ => ?_, fun b o e _ => ?_, fun b o e n z => ?_, .refl, ⟨[p], rfl⟩⟩⟩
  · rcases gS h1 with ⟨hi, e⟩ | ⟨rfl, rfl⟩
    · exact (R.obj i x a e ((gR hi).mp h2)).mono U ⟨[p], rfl⟩ fun v q _ => q
    · rw [gP h2]
      exact ⟨vs, h, Paired.mapP r fun _ _ q => q.mono U ⟨[p], rfl⟩⟩
  · rcases gS h1 with ⟨hi, e⟩ | ⟨rfl, rfl⟩ <;> rcases gS h2 with ⟨hj, e'⟩ | ⟨rfl, rfl⟩
    · exact R.inj i j x y a e e' h3 h4 ((gR hi).mp h5) ((gR hj).mp h6)
    · have := gP h6
      subst this
      exact absurd (.inr ⟨i, x, e, h3, (gR hi).mp h5⟩) no
    · have := gP h5
      subst this
      exact absurd (.inr ⟨j, y, e', h4, (gR hj).mp h6⟩) no
    · rfl
  · rcases gS h1 with ⟨hi, e⟩ | ⟨rfl, rfl⟩
    · exact ⟨fun z => (R.out i x a e h2 ((gR hi).mp h3)).1 (.inl z), (R.out i x a e h2 ((gR hi).mp h3)).2⟩
    · rw [gP h3]
      exact ⟨n0, fun z => no (.inl z)⟩
  · by_cases hb : b = p
    · rw [if_pos hb] at e; cases e
    · rw [if_neg hb] at e; exact e
  · by_cases hb : b = p
    · rw [if_pos hb] at e; cases e
    · rw [if_neg hb] at e; exact e
  · rcases ownI b z with z | z
    · exact n z
    · rw [if_pos z] at e; cases e
end
def mYes : MT := fun _ S Q _ => Q true S
def lcM (gd : Sto → Prop) (f : MG) (tt : MT) (te : MX) (envW : MEnv) : List D → List W → Sto → (List W → Sto → Prop) → Prop
  | [], acc, S, Q => gd S ∧ Q acc S
  | x :: xs, acc, S, Q => gd S ∧ ∃ env2, f x envW = some env2 ∧ tt env2 S (fun b S2 => if b = true then te env2 S2 (fun w S3 => acc.length < line ∧ lcM gd f tt te envW xs (acc ++ [w]) S3 Q) (fun _ => False) else lcM gd f tt te envW xs acc S2 Q) (fun _ => False)
theorem mono_lcM {gd : Sto → Prop} {f : MG} {tt : MT} {te : MX} (ht : MonoT tt) (he : MonoX te) {envW : MEnv} {Q Q' : List W → Sto → Prop} (h : ∀ ws S, Q ws S → Q' ws S) : ∀ (xs : List D) (acc : List W) (S : Sto), lcM gd f tt te envW xs acc S Q → lcM gd f tt te envW xs acc S Q'
  | [], acc, S, q => ⟨q.1, h _ _ q.2⟩
  | x :: xs, acc, S, ⟨q0, env2, q1, q2⟩ => ⟨q0, env2, q1, ht _ _ _ _ _ _ (fun b S2 z => by
      cases b with
      | true => exact he _ _ _ _ _ _ (fun w S3 y => ⟨y.1, mono_lcM ht he h xs _ _ y.2⟩) (fun _ y => y) z
      | false => exact mono_lcM ht he h xs _ _ z) (fun _ y => y) q2⟩
/-- [..] that stands still | that the store holds -/
def mLc (mi : MI) (f : MG) (tt : MT) (te : MX) (vs : List Nat) : MX := fun env S Q E => mi env S (fun items gd S1 => lcM gd f tt te (wipeM env vs) items [] S1 fun ws S2 => ∃ xs, datas ws = some xs ∧ Q (.d (.lst xs)) S2) E
def mLcN (mi : MI) (f : MG) (tt : MT) (te : MX) (vs : List Nat) : MX := fun env S Q E => mi env S (fun items gd S1 => lcM gd f tt te (wipeM env vs) items [] S1 fun ws S2 => Q (.ref S2.length) (S2 ++ [.lst ws])) E
abbrev E0' : XK := fun _ _ _ => False
section
variable {E : XK} {X : Cx} {tg iter elt : Expr} {mi : MI} {f : MG} {tt : MT} {te : MX} {is : List Nat} {pos : Pos}
/-- the walk of a comprehension, whatever its end makes of the list -/
theorem lc_go {t : TG} {vs : List Nat} {Qf : List W → Sto → Prop} {Ex : D → Prop} (C : Cxt) (hi : MonoI mi) (ht : MonoT tt) (he : MonoX te)
    (gq : ∀ g B0 ρ S H (env env' : MEnv) σ x v Q, Rel C g B0 ρ S H → EnvR C g (Bad g B0 ρ S) ρ H env σ → RV C g (Bad g B0 ρ S) H x v → f x env = some env' → (∀ σ', AwayFrom is σ σ' → EnvR C g (Bad g B0 ρ S) ρ H env' σ' → Q σ' H) → t v σ H Q)
    (hs : ∀ k ∈ is, k ∈ vs) {g : Gh} {B0 : Addr → Prop} {ρ : List Addr} {S : Sto} {H : Hp} {env : MEnv} {σ : L2.St} {Q : VK} (R : Rel C g B0 ρ S H) (N : EnvR C g (Bad g B0 ρ S) ρ H env σ)
    (q : mi env S (fun items gd S1 => lcM gd f tt te (wipeM env vs) items [] S1 Qf) Ex) (hx : ∀ x, Ex x → XPost C E g B0 ρ S H x)
    (fin : ∀ g' ρ' S' H' p ws us, Qf ws S' → Rel C g' (fun b => B0 b ∨ b = p) ρ' S' H' → ¬ B0 p → ¬ Own g' ρ' S' p → Ext g B0 ρ S H g' ρ' S' (fun b => if b = p then none else H' b) → Ext g B0 ρ S H g' ρ' S' H' → H' p = some (.lst us) → Paired (RW C g' (Bad g' (fun b => B0 b ∨ b = p) ρ' S') ρ' H') ws us → Q (.ref p) H') :
    tLc (tMI C E mi) t (tMT C E0' tt) (tM C E0' te) vs σ H Q := by
  refine ⟨g, B0, ρ, env, S, R, N, hi _ _ _ _ _ _ (fun items gd S1 q1 g1 ρ1 H1 J R1 e1 wk p hp => ?_) hx q⟩
  have nB0 : ¬ B0 p := fun z => R1.newBad hp (.inl z)
  have nn : ∀ b o, H1 b = some o → ¬ Bad g1 B0 ρ1 S1 b → ¬ (B0 b ∨ b = p) := fun b o h n z => z.elim (fun z => n (.inl z)) (ne_of_none h hp)
  obtain ⟨R2, no2⟩ := R1.guard (o := .lst []) hp
  let P : Nat → List W → Hp → Prop := fun i acc H' => ∃ g' ρ' S' us, Rel C g' (fun b => B0 b ∨ b = p) ρ' S' H' ∧ Ext g1 B0 ρ1 S1 H1 g' ρ' S' H' ∧ ¬ Own g' ρ' S' p ∧ H' p = some (.lst us) ∧ Paired (RW C g' (Bad g' (fun b => B0 b ∨ b = p) ρ' S') ρ' H') acc us ∧ lcM gd f tt te (wipeM env vs) (items.drop i) acc S' Qf
  refine ⟨fun i m H' => m = items.length - i ∧ i ≤ items.length ∧ ∃ acc, P i acc H', ⟨items.length, by omega, Nat.zero_le _, [], g1, ρ1, S1, [], R2, Ext.refl.writeNew hp, no2, upd_same, .nil, by rw [List.drop_zero]; exact q1⟩, ?_⟩
  rintro i m H' ⟨rfl, hi', acc, g', ρ', S', us, R', e', no', hp', ra, q'⟩
  by_cases hl : i < items.length
  · rw [List.drop_eq_getElem_cons hl] at q'
    obtain ⟨gd', env2, hf, q'⟩ := q'
    obtain ⟨hgo, hy⟩ := wk.go i items[i] g' (fun b => B0 b ∨ b = p) ρ' S' H' (fun _ z => .inl z) nn (List.getElem?_eq_getElem hl) R' e' gd'
    refine .inr ⟨hgo, fun H2 => ∃ acc, P (i + 1) acc H2, fun H2 z => ⟨items.length - (i + 1), by omega, rfl, hl, z⟩, fun x H3 y => ?_⟩
    obtain ⟨R3, e3, r3⟩ := hy x H3 y
    have e13 := e'.trans (e3.re B0)
    have N3 : EnvR C g' (Bad g' (fun b => B0 b ∨ b = p) ρ' S') ρ' H3 (wipeM env vs) (L2.wipe σ vs) := ((N.ext e1).wipe vs).upB e13 nn
    refine gq g' _ ρ' S' H3 (wipeM env vs) env2 (L2.wipe σ vs) items[i] x _ R3 N3 r3 hf fun σ4 aw N4 => ?_
    refine ⟨by rw [wipe_away aw hs, wipe_idem], ?_⟩
    refine tMT.go ht R3 N4 q' (fun _ z => z.elim) fun b S5 q5 g5 ρ5 H5 R5 e5 => ?_
    have hp5 : H5 p = some (.lst us) := (e3.trans e5).keep p _ hp' no'
    have no5 : ¬ Own g5 ρ5 S5 p := (e3.trans e5).own p _ hp' no'
    have ra5 := Paired.mapP ra fun _ _ z => z.ext (e3.trans e5)
    have e15 := e13.trans (e5.re B0)
    cases b with
    | false => exact ⟨acc, g5, ρ5, S5, us, R5, e15, no5, hp5, ra5, q5⟩
    | true =>
      refine tM.go he R5 (N4.ext e5) q5 (fun _ z => z.elim) fun w S6 ⟨hz, q6⟩ g6 ρ6 H6 v R6 e6 r6 => ?_
      have hp6 : H6 p = some (.lst us) := e6.keep p _ hp5 no5
      have no6 : ¬ Own g6 ρ6 S6 p := e6.own p _ hp5 no5
      obtain ⟨R7, U7⟩ := R6.writeB (u := .lst (us ++ [v])) (.inr rfl) no6 hp6 (fun z => z)
      refine ⟨us, hp6, by rw [← Paired.len ra5]; exact line_lt hz, acc ++ [w], g6, ρ6, S6, us ++ [v], R7, (e15.trans (e6.re B0)).writeNew hp, no6, upd_same, ?_, q6⟩
      have app : ∀ {as : List W} {bs : List V} {a : W} {b : V} {F : W → V → Prop}, Paired F as bs → F a b → Paired F (as ++ [a]) (bs ++ [b]) := by
        intro as
        induction as with
        | nil =>
          intro bs a b F h hab
          cases h
          exact .cons hab .nil
        | cons a' as ih =>
          intro bs a b F h hab
          cases h with
          | cons h1 h2 => exact .cons h1 (ih h2 hab)
      exact app (Paired.mapP (Paired.mapP ra5 fun _ _ z => z.ext e6) fun _ _ z => z.mono U7 ⟨[], by simp⟩) (r6.mono U7 ⟨[], by simp⟩)
  · have ei : i = items.length := by omega
    subst ei
    rw [List.drop_length] at q'
    refine .inl ⟨wk.stop g' _ ρ' S' H' (fun _ z => .inl z) R' e' q'.1, fin g' ρ' S' H' p acc us q'.2 R' nB0 no' ?_ (e1.trans e') hp' ra⟩
    have e0 := e1.trans e'
    have hH : H p = none ∨ True := .inr trivial
    refine ⟨fun b o h i => ?_, fun b o h n => ?_, e0.own, e0.gh, e0.pre⟩
    · by_cases hb : b = p
      · exact absurd (e1.imm b o h i) (by rw [hb, hp]; intro z; cases z)
      · rw [if_neg hb]; exact e0.imm b o h i
    · by_cases hb : b = p
      · exact absurd (e1.keep b o h n) (by rw [hb, hp]; intro z; cases z)
      · rw [if_neg hb]; exact e0.keep b o h n
/-- the parts of a comprehension -/
structure LcJ (E : XK) (X : Cx) (elt tg iter : Expr) (ifs : List Expr) (scope : Scope) (own : List (Str × Nat)) (mi : MI) (f : MG) (tt : MT) (te : MX) : Prop where
  i : MIJ E X tg iter mi
  ok : BlkOk X.N X.env.scope scope own
  g : ∃ t, (∀ (s : Shared) (H : Hp) (C : Addr) (cl : List (Str × Addr)) (fp : List Addr), PG (X.blk s H scope (compEnvC scope cl C X.env) fp) tg t) ∧
    ∀ g B0 ρ S H (env env' : MEnv) σ x v Q, Rel (ctx X) g B0 ρ S H → EnvR (ctx X) g (Bad g B0 ρ S) ρ H env σ → RV (ctx X) g (Bad g B0 ρ S) H x v → f x env = some env' → (∀ σ', AwayFrom (own.map (·.2)) σ σ' → EnvR (ctx X) g (Bad g B0 ρ S) ρ H env' σ' → Q σ' H) → t v σ H Q
  t : (∀ (s : Shared) (H : Hp) (C : Addr) (cl : List (Str × Addr)) (fp : List Addr), PTs (X.blk s H scope (compEnvC scope cl C X.env) fp) ifs (tMT (ctx X) E0' tt)) ∧ MonoT tt
  e : (∀ (s : Shared) (H : Hp) (C : Addr) (cl : List (Str × Addr)) (fp : List Addr), PE (X.blk s H scope (compEnvC scope cl C X.env) fp) elt (tM (ctx X) E0' te)) ∧ MonoX te
theorem mono_lc (hi : MonoI mi) (ht : MonoT tt) (he : MonoX te) (vs : List Nat) : MonoX (mLc mi f tt te vs) := fun env S Q Q' E E' h hx q => hi _ _ _ _ _ _ (fun xs gd S' z => mono_lcM ht he (fun ws S ⟨xs, a, b⟩ => ⟨xs, a, h _ _ b⟩) xs [] S' z) hx q
theorem mono_lcN (hi : MonoI mi) (ht : MonoT tt) (he : MonoX te) (vs : List Nat) : MonoX (mLcN mi f tt te vs) := fun env S Q Q' E E' h hx q => hi _ _ _ _ _ _ (fun xs gd S' z => mono_lcM ht he (fun ws S b => h _ _ b) xs [] S' z) hx q
theorem lc_frz {ifs : List Expr} {scope : Scope} {own : List (Str × Nat)} (J : LcJ E X elt tg iter ifs scope own mi f tt te) : ∃ t, (∀ (s : Shared) (H : Hp) (C : Addr) (cl : List (Str × Addr)) (fp : List Addr), PG (X.blk s H scope (compEnvC scope cl C X.env) fp) tg t) ∧
    ∀ σ H Q, tM (ctx X) E (mLc mi f tt te (own.map (·.2))) σ H Q → tLc (tMI (ctx X) E mi) t (tMT (ctx X) E0' tt) (tM (ctx X) E0' te) (own.map (·.2)) σ H Q := by
  obtain ⟨t, pg, gq⟩ := J.g
  refine ⟨t, pg, fun σ H Q ⟨g, B0, ρ, env, S, R, N, q⟩ => ?_⟩
  have q' : mi env S (fun items gd S1 => lcM gd f tt te (wipeM env (own.map (·.2))) items [] S1 fun ws S2 => ∃ xs, datas ws = some xs ∧ OkP (ctx X) g B0 ρ S H Q (W.d (D.lst xs)) S2) (XPost (ctx X) E g B0 ρ S H) := q
  refine lc_go (E := E) (is := own.map (·.2)) (ctx X) J.i.mono J.t.2 J.e.2 gq (fun _ h => h) R N q' (fun _ z => z) fun g' ρ' S' H' p ws us ⟨xs, hx, k⟩ R' n0 no _ e hp r => ?_
  exact k g' ρ' H' (.ref p) (R'.dropB fun _ z => .inl z) e (RV.lst (.inl ⟨hp, fun z => z.elim n0 no⟩) ((Paired.rws r hx).mono (Up.weak fun b z => z.elim (fun z => .inl (.inl z)) .inr)))
theorem lc_new {ifs : List Expr} {scope : Scope} {own : List (Str × Nat)} (J : LcJ E X elt tg iter ifs scope own mi f tt te) : ∃ t, (∀ (s : Shared) (H : Hp) (C : Addr) (cl : List (Str × Addr)) (fp : List Addr), PG (X.blk s H scope (compEnvC scope cl C X.env) fp) tg t) ∧
    ∀ σ H Q, tM (ctx X) E (mLcN mi f tt te (own.map (·.2))) σ H Q → tLc (tMI (ctx X) E mi) t (tMT (ctx X) E0' tt) (tM (ctx X) E0' te) (own.map (·.2)) σ H Q := by
  obtain ⟨t, pg, gq⟩ := J.g
  refine ⟨t, pg, fun σ H Q ⟨g, B0, ρ, env, S, R, N, q⟩ => ?_⟩
  have q' : mi env S (fun items gd S1 => lcM gd f tt te (wipeM env (own.map (·.2))) items [] S1 fun ws S2 => OkP (ctx X) g B0 ρ S H Q (W.ref S2.length) (S2 ++ [O.lst ws])) (XPost (ctx X) E g B0 ρ S H) := q
  refine lc_go (E := E) (is := own.map (·.2)) (ctx X) J.i.mono J.t.2 J.e.2 gq (fun _ h => h) R N q' (fun _ z => z) fun g' ρ' S' H' p ws us k R' n0 no e0 e hp r => ?_
  obtain ⟨R2, e2⟩ := R'.adopt n0 no hp r
  exact k g' _ H' (.ref p) R2 (e0.trans e2) ⟨p, by rw [← R'.len]; simp, rfl⟩
theorem me_lc {ifs : List Expr} {scope : Scope} {own : List (Str × Nat)} (hc : X.calm = true) (hN : X.N.Nodup) (J : LcJ E X elt tg iter ifs scope own mi f tt te) (hs : ∀ x, foldedSetIterable iter X.env x = pure x := by intro _; rfl) :
    ME E X (.ListComp elt [⟨tg, iter, ifs, 0⟩] scope pos) (mLc mi f tt te (own.map (·.2))) := by
  obtain ⟨t, pg, k⟩ := lc_frz J
  exact ⟨PE.imp (pe_lc hc hN J.i.pi J.ok pg J.t.1 J.e.1 hs) k, mono_lc J.i.mono J.t.2 J.e.2 _⟩
theorem me_lcN {ifs : List Expr} {scope : Scope} {own : List (Str × Nat)} (hc : X.calm = true) (hN : X.N.Nodup) (J : LcJ E X elt tg iter ifs scope own mi f tt te) (hs : ∀ x, foldedSetIterable iter X.env x = pure x := by intro _; rfl) :
    ME E X (.ListComp elt [⟨tg, iter, ifs, 0⟩] scope pos) (mLcN mi f tt te (own.map (·.2))) := by
  obtain ⟨t, pg, k⟩ := lc_new J
  exact ⟨PE.imp (pe_lc hc hN J.i.pi J.ok pg J.t.1 J.e.1 hs) k, mono_lcN J.i.mono J.t.2 J.e.2 _⟩
/-- name = [..] on one line -/
theorem asg_go {i : Nat} {m : MX} (mo : MonoX m) (D' : Ends) (σ : L2.St) (H : Hp) (h : tMS (ctx X) E (sSet i m) D' σ H) : tM (ctx X) E m σ H fun x H1 => gName i x σ H1 D'.nx := by
  obtain ⟨g, B0, ρ, env, S, R, N, q⟩ := h
  exact tM.go mo R N q (fun _ z => z) fun w S1 q1 g1 ρ1 H1 v1 R1 e1 r1 => q1 g1 ρ1 H1 _ R1 e1 ((N.ext e1).set i r1)
theorem mono_set {i : Nat} {m : MX} (mo : MonoX m) : MonoS (sSet i m) := fun K K' env S k h => mo _ _ _ _ _ _ (fun w S' z => k.nx _ _ z) k.ex h
theorem ms_setLc {ifs : List Expr} {scope : Scope} {own : List (Str × Nat)} {i : Nat} {y : Str} {py spos : Pos} (hc : X.calm = true) (hN : X.N.Nodup) (J : LcJ E X elt tg iter ifs scope own mi f tt te)
    (hsw : swapsWith (.ListComp elt [⟨tg, iter, ifs, 0⟩] scope pos) (some (.Name y py)) spos.line X.env = pure true) (hy : X.N[i]? = some y := by rfl) (hyl : X.env.scope.names.lookup y = some .local := by rfl) (hs : ∀ x, foldedSetIterable iter X.env x = pure x := by intro _; rfl) :
    MSJ E X (.Assign [.Name y py] (.ListComp elt [⟨tg, iter, ifs, 0⟩] scope pos) spos) (sSet i (mLc mi f tt te (own.map (·.2)))) := by
  obtain ⟨t, pg, k⟩ := lc_frz J
  have mo := mono_lc (f := f) J.i.mono J.t.2 J.e.2 (own.map (·.2))
  exact ⟨PS.imp (ps_setLc (i := i) hc hN hy hyl hsw J.i.pi J.ok pg J.t.1 J.e.1 hs) fun D' σ H h => k _ _ _ (asg_go mo D' σ H h), mono_set mo⟩
theorem ms_setLcN {ifs : List Expr} {scope : Scope} {own : List (Str × Nat)} {i : Nat} {y : Str} {py spos : Pos} (hc : X.calm = true) (hN : X.N.Nodup) (J : LcJ E X elt tg iter ifs scope own mi f tt te)
    (hsw : swapsWith (.ListComp elt [⟨tg, iter, ifs, 0⟩] scope pos) (some (.Name y py)) spos.line X.env = pure true) (hy : X.N[i]? = some y := by rfl) (hyl : X.env.scope.names.lookup y = some .local := by rfl) (hs : ∀ x, foldedSetIterable iter X.env x = pure x := by intro _; rfl) :
    MSJ E X (.Assign [.Name y py] (.ListComp elt [⟨tg, iter, ifs, 0⟩] scope pos) spos) (sSet i (mLcN mi f tt te (own.map (·.2)))) := by
  obtain ⟨t, pg, k⟩ := lc_new J
  have mo := mono_lcN (f := f) J.i.mono J.t.2 J.e.2 (own.map (·.2))
  exact ⟨PS.imp (ps_setLc (i := i) hc hN hy hyl hsw J.i.pi J.ok pg J.t.1 J.e.1 hs) fun D' σ H h => k _ _ _ (asg_go mo D' σ H h), mono_set mo⟩
end
end RW
/-! RwCalls: defs, calls. -/
namespace RW
open PySem PySem.Spec PyProof.Rows L2
variable [Tbl]

abbrev MF := List D → (D → Prop) → (D → Prop) → Prop
def MonoF (m : MF) : Prop := ∀ ds Q Q' E E', (∀ x, Q x → Q' x) → (∀ x, E x → E' x) → m ds Q E → m ds Q' E'
def startM (n : Nat) (ds : List D) : MEnv := ds.map (fun x => some (W.d x)) ++ List.replicate (n - ds.length) none
/-- a def's mirror by its body's: n slots -/
def mFn (n : Nat) (b : MS) : MF := fun ds Q E => b ⟨fun _ _ => Q .non, Q, fun _ _ => False, fun _ _ => False, E⟩ (startM n ds) []
theorem mono_fn {n : Nat} {b : MS} (h : MonoS b) : MonoF (mFn n b) := fun ds Q Q' E E' k hx q => h ⟨fun _ _ => Q .non, Q, fun _ _ => False, fun _ _ => False, E⟩ ⟨fun _ _ => Q' .non, Q', fun _ _ => False, fun _ _ => False, E'⟩ _ _ ⟨fun _ _ z => k _ z, fun x z => k x z, fun _ _ z => z, fun _ _ z => z, hx⟩ q
/-- the promise of a mirror -/
def spF (C : Cxt) (n : Nat) (m : MF) : Sp := fun vs H Q E => vs.length = n ∧ ∃ g B0 ds, Rel C g B0 [] [] H ∧ RVs C g (Bad g B0 [] []) H ds vs ∧
  m ds (fun x => ∀ g' H' v, Rel C g' B0 [] [] H' → Ext g B0 [] [] H g' [] [] H' → RV C g' (Bad g' B0 [] []) H' x v → Q v H') (XPost C E g B0 [] [] H)
section
variable {C : Cxt} {E : XK} {g g' g1 : Gh} {B0 : Addr → Prop} {ρ ρ' ρ1 : List Addr} {S S' S1 : Sto} {H H' H1 : Hp}
theorem Rel.nil (R : Rel C g B0 ρ S H) : Rel C g B0 [] [] H := ⟨rfl, fun i o a h => by simp at h, fun i j o o' a h => by simp at h, fun i o a h => by simp at h, R.b0, R.dr⟩
theorem Ext.nil (e : Ext g B0 [] [] H g' ρ' S' H') : Ext g B0 [] [] H g' [] [] H' := ⟨e.imm, e.keep, fun b o h n z => e.own b o h n (.inl (Own.nil.mp z)), e.gh, ⟨[], rfl⟩⟩
end
/-! ### defs that run where no object's text is being made (repr asks it) -/
structure FnG (P : Program) (w : World) (K : PySem.W.Frag) (mg : Str → Option Value) (base : Heap) (CX : CXT) (k : Nat) (f : Addr) (fd : FuncData) (ps : List Str) (sp : Sp) : Prop where
  len : ∀ vs H Q E, sp vs H Q E → vs.length = ps.length
  run : ∀ (A : Around) (outer : List PySem.Env) (s : Shared) (H : Hp) (args : Args) (us : List Value) (vs : List V) (Q : VK) (E : XK), Room k A → A.guards = some [] → Env0 P w K mg base A outer s H → BindsTo s fd args (ps.zip us) → Vals vs us → sp vs H Q E →
    codeAny (model P w) A (.call (.ref f) args) (CR CX outer P w H s Q E) s
theorem FnG.of {P : Program} {w : World} {K : PySem.W.Frag} {mg : Str → Option Value} {base : Heap} {CX : CXT} {k : Nat} {f : Addr} {fd : FuncData} {ps : List Str} {sp : Sp} (F : FnOk P w K mg base CX k f fd ps sp) : FnG P w K mg base CX k f fd ps sp :=
  ⟨F.len, fun A outer s H args us vs Q E hr _ => F.run A outer s H args us vs Q E hr⟩
theorem FnG.mono {P : Program} {w : World} {K : PySem.W.Frag} {mg : Str → Option Value} {base : Heap} {CX : CXT} {j k : Nat} {f : Addr} {fd : FuncData} {ps : List Str} {sp : Sp} (F : FnG P w K mg base CX j f fd ps sp) (h : j ≤ k) :
    FnG P w K mg base CX k f fd ps sp := ⟨F.len, fun A outer s H args us vs Q E hr => F.run A outer s H args us vs Q E (hr.mono h)⟩
theorem FnG.imp {P : Program} {w : World} {K : PySem.W.Frag} {mg : Str → Option Value} {base : Heap} {CX : CXT} {k : Nat} {f : Addr} {fd : FuncData} {ps : List Str} {sp sp' : Sp} (F : FnG P w K mg base CX k f fd ps sp)
    (h : ∀ vs H Q E, sp' vs H Q E → sp vs H Q E) : FnG P w K mg base CX k f fd ps sp' :=
  ⟨fun vs H Q E q => F.len vs H Q E (h _ _ _ _ q), fun A outer s H args us vs Q E hr hg he hb hv hs => F.run A outer s H args us vs Q E hr hg he hb hv (h _ _ _ _ hs)⟩
theorem fnG_of {CX : CXT} {P : Program} {w : World} {K : PySem.W.Frag} {mg : Str → Option Value} {base : Heap} {k : Nat} {f : Addr} {name qual : Str} {params : Arguments} {body : List Stmt} {scope : Scope} {dV kV doc pm cdv ct oc : Value} {an od : Option Addr}
    {osl : Array (Option Value)} {N ps : List Str} {sp : Sp} (lk : K.lookup f = some ⟨oc, od, .func (PySem.W.fnOf name qual params body scope dV kV doc pm an cdv ct), osl⟩) (hcd : PySem.W.codeIn K cdv qual = true) (S : FnScope N ps scope)
    (len : ∀ vs H Q E, sp vs H Q E → vs.length = ps.length)
    (hbody : ∀ (A : Around) (outer : List PySem.Env) (s : Shared) (H : Hp) (vs : List V) (Q : VK) (E : XK), Room k (A.deeper (envOfC qual scope s.heap.objs.size f cdv)) → A.guards = some [] → sp vs H Q E →
      ∃ t, PSs (cxOf CX P w K mg base N qual scope f cdv A outer s H E) body t ∧ t { nx := fun _ H' => Q .non H', rt := Q } (L2.start N vs) H) :
    FnG P w K mg base CX (k + 1) f (PySem.W.fnOf name qual params body scope dV kV doc pm an cdv ct) ps sp := by
  refine ⟨len, fun A outer s H args us vs Q E hr hgd e0 hb r hsp => ?_⟩
  have hl := len _ _ _ _ hsp
  have KX : K.In s.heap := e0.mod.kin.keeps fun b o e => (e0.bs b o e).1
  have lim : s.heap.NoLimit := e0.mod.nolimit.keeps fun b o e => (e0.bs b o e).1
  have hkind : ∀ y ∈ ps.zip us, scope.names.lookup y.1 = some .local ∨ (scope.names.lookup y.1 = some .cell ∧ ((cellsFrom (s.heap.objs.size + 1) scope.names []).lookup y.1).isSome = true) := fun ⟨n, v⟩ hy => by
    rcases S.par n (List.of_mem_zip hy).1 with q | q
    · exact .inl q
    · exact .inr ⟨q, PySem.W.cellsFrom_some _ _ _ (.inl q)⟩
  refine codeAny_call_function hr.depth (KX _ _ lk) rfl S.co S.gen rfl (PySem.W.codeRec_of KX hcd) (hb _ _ _ _ ?_)
  refine wpAny_newFunctionEnv_cells S.kind hkind fun env he s1 x => ?_
  subst he
  refine ⟨lim.keeps x.toInCall.keep, codeAny_func ?_⟩
  obtain ⟨t, ht, hq⟩ := hbody A outer s H vs Q E (hr.deeper _) hgd hsp
  have I : Inv (cxOf CX P w K mg base N qual scope f cdv A outer s H E) [] (L2.start N vs) H s1 := inv_start S hr.hd e0 hl r x
  refine wpAny_mono (ht.run [] s1 (L2.start N vs) H _ I hq) (fun fl s' hs => ?_) fun e s' hs => hs
  have fin : ∀ {σ' : L2.St} {H' : Hp} {v : V} {u : Value}, Inv (cxOf CX P w K mg base N qual scope f cdv A outer s H E) [] σ' H' s' → RelV v u → Q v H' → CE outer P w H s Q u s' :=
    fun {σ' H' v u} J rv q => ⟨v, H', J.os, J.bare, J.base, J.hok, rv, q⟩
  cases fl with
  | ret u =>
    obtain ⟨v, σ', H', J, rv, q⟩ := hs
    exact fin J rv q
  | next =>
    obtain ⟨σ', H', J, q⟩ := hs
    exact fin (v := V.non) (u := Value.none) J rfl q
  | brk =>
    obtain ⟨_, _, _, q⟩ := hs
    exact False.elim q
  | cont =>
    obtain ⟨_, _, _, q⟩ := hs
    exact False.elim q
section
variable {X : Cx} {CX : CXT} {k : Nat} {f C : Addr} {fd : FuncData} {ps : List Str} {sp : Sp} {E : L2.St → XK} {x m : Str} {p pos apos : Pos} {e o : Expr} {es : List Expr} {ta : TE} {t : TA}
theorem run_fnG {pins : List (Addr × Obj)} {σ : L2.St} {H : Hp} {s : Shared} {Q : VK} {us : List Value} {vs : List V} (F : FnG X.prog X.w X.K X.mg X.base CX k f fd ps sp) (hgd : X.A.guards = some []) (hr : Room k X.A) (hb : Binds X.K fd ps []) (hx : PassesAt CX X σ (E σ))
    (I : Inv X pins σ H s) (r : Vals vs us) (h : sp vs H Q (E σ)) : wpAny (model X.prog X.w) X.A (call (.ref f) us) (EP X pins σ Q) X.xe s := by
  have hl : us.length = ps.length := by rw [← r.length]; exact F.len _ _ _ _ h
  have b := hb s us I.kIn (by rw [List.append_nil]; exact hl)
  rw [List.append_nil] at b
  refine wpAny_call (codeAny_mono (F.run X.A X.stack s H ⟨us, []⟩ us vs Q (E σ) hr hgd I.env0 b r h) fun r s' hq => ?_)
  cases r with
  | error e => exact hx pins H s e s' I hq
  | ok fl =>
    cases fl with
    | ret u => exact I.after hq
    | next => exact False.elim hq
    | brk => exact False.elim hq
    | cont => exact False.elim hq
theorem pe_callG (F : FnG X.prog X.w X.K X.mg X.base CX k f fd ps sp) (hgd : X.A.guards = some []) (hr : Room k X.A) (hg : Gl X x) (hm : X.mg x = some (.ref f)) (hk : PySem.W.keepIn X.K (.ref f) = true) (hb : Binds X.K fd ps []) (hx : ∀ σ, PassesAt CX X σ (E σ))
    (ha : PA X (e :: es) t) (hdb : (x == ("__debug__" : Str)) = false := by decide) (he : starEach (e :: es) X.env = (false, eval e X.env) :: starEach es X.env := by rfl) (hpl : (backTo pos (starEach es X.env)).any (·.1) = false := by rfl) :
    PE X (.Call (.Name x p) (e :: es) [] pos) (tCallS sp E t) := by
  refine ⟨fun pins s σ H Q I h => ?_⟩
  refine wpAny_Call_Name_kw (ld_glob I hg hm ?_ hdb)
  refine PySem.W.callWith_K (h₀ := X.base) I.ok.mod.kin hk (thn (ha.run pos pins s σ H _ I h) fun us s1 ⟨vs, H1, I1, r, q⟩ => ⟨I1.kIn, ?_⟩) he hpl
  exact run_fnG F hgd hr hb (hx σ) I1 r q
variable {ks : List Str} {kws : List Keyword} {tk : TA} {g : List Value → List Value → List Value} {gV : List V → List V → List V}
theorem run_fnkG {pins : List (Addr × Obj)} {σ : L2.St} {H : Hp} {s : Shared} {Q : VK} {us ws : List Value} {vs zs : List V} (F : FnG X.prog X.w X.K X.mg X.base CX k f fd ps sp) (hgd : X.A.guards = some []) (hr : Room k X.A) (hb : KBinds X.K fd ps ks g gV) (hx : PassesAt CX X σ (E σ))
    (I : Inv X pins σ H s) (r : Vals vs us) (rz : Vals zs ws) (h : sp (gV vs zs) H Q (E σ)) : wpAny (model X.prog X.w) X.A (call (.ref f) us (ks.zip ws)) (EP X pins σ Q) X.xe s := by
  have r2 := hb.rel r rz
  have hl : (g us ws).length = ps.length := by rw [← r2.length]; exact F.len _ _ _ _ h
  refine wpAny_call (codeAny_mono (F.run X.A X.stack s H ⟨us, ks.zip ws⟩ (g us ws) (gV vs zs) Q (E σ) hr hgd I.env0 (hb.to s us ws I.kIn hl) r2 h) fun r s' hq => ?_)
  cases r with
  | error e => exact hx pins H s e s' I hq
  | ok fl =>
    cases fl with
    | ret u => exact I.after hq
    | next => exact False.elim hq
    | brk => exact False.elim hq
    | cont => exact False.elim hq
/-- f(k = v, ..): keywords alone -/
def tCallKS (sp : Sp) (gV : List V → List V → List V) (E : L2.St → XK) (tk : TA) : TE := fun σ H Q => tk σ H fun zs H2 => sp (gV [] zs) H2 Q (E σ)
theorem pe_callKG (F : FnG X.prog X.w X.K X.mg X.base CX k f fd ps sp) (hgd : X.A.guards = some []) (hr : Room k X.A) (hg : Gl X x) (hm : X.mg x = some (.ref f)) (hk : PySem.W.keepIn X.K (.ref f) = true) (hb : KBinds X.K fd ps ks g gV) (hx : ∀ σ, PassesAt CX X σ (E σ)) (hkw : PK X kws tk)
    (hall : (backToKw pos (keywordEach kws X.env)).all (·.1.isSome) = true := by rfl) (hks : (backToKw pos (keywordEach kws X.env)).filterMap (·.1) = ks := by rfl) (hdb : (x == ("__debug__" : Str)) = false := by decide)
    (hpl : ((backTo pos (starEach [] X.env)).any (·.1) || (backToKw pos (keywordEach kws X.env)).any (·.1.isNone)) = false := by rfl) :
    PE X (.Call (.Name x p) [] kws pos) (tCallKS sp gV E tk) := by
  refine ⟨fun pins s σ H Q I h => ?_⟩
  refine wpAny_Call_Name_kw (ld_glob I hg hm ?_ hdb)
  refine PySem.W.callWith_KW0 (h₀ := X.base) I.ok.mod.kin hk hall ?_ hpl
  refine thn (hkw.run pos pins s σ H _ I h) fun ws s2 ⟨zs, H2, I2, rz, q2⟩ => ⟨I2.kIn, ?_⟩
  rw [hks]
  exact run_fnkG F hgd hr hb (hx σ) I2 (us := []) (vs := []) .nil rz q2
end
section
variable {C : Cxt} {E : XK} {g g' g1 : Gh} {B0 : Addr → Prop} {ρ ρ' ρ1 : List Addr} {S S' S1 : Sto} {H H' H1 : Hp}
theorem start_env {n : Nat} {ds : List D} {vs : List V} {N : List Str} (rs : RVs C g (Bad g B0 [] []) H ds vs) (hn : n = N.length := by rfl) : EnvR C g (Bad g B0 [] []) [] H (startM n ds) (L2.start N vs) := by
  subst hn
  have hd : ds.length = vs.length := rs.length
  refine ⟨?_, fun i w hw => ?_⟩
  · unfold startM L2.start
    simp [hd]
  · unfold startM at hw
    by_cases hi : i < ds.length
    · rw [List.getElem?_append_left (by simpa using hi), List.getElem?_map] at hw
      cases hx : ds[i]? with
      | none => rw [hx] at hw; cases hw
      | some y =>
        rw [hx] at hw
        cases hw
        obtain ⟨v, hv, rv⟩ := rs.get hx
        refine ⟨v, ?_, rv⟩
        unfold L2.start
        rw [List.getElem?_append_left (by rw [List.length_map, ← hd]; exact hi), List.getElem?_map, hv]
        rfl
    · rw [List.getElem?_append_right (by simpa using hi), List.getElem?_replicate] at hw
      split at hw <;> cases hw
/-- a def by its body -/
theorem fn_ok {P : Program} {w : World} {K : PySem.W.Frag} {mg : Str → Option Value} {base : Heap} {x qual : Str} {st : Stmt} {f : Addr} {fd : FuncData} {N ps : List Str} {k : Nat} {b : MS} (F : Fun K x qual st f fd) (Sc : FnScope N ps (defScope st))
    (hb : ∀ (X : Cx) (E : XK), X.prog = P → X.w = w → X.K = K → X.mg = mg → X.base = base → X.N = N → (∃ (L : Addr) (cdv : Value), X.env = envOfC qual (defScope st) L f cdv) → X.calm = true → X.fn = (fun _ => true) → Room k X.A → X.A.guards = some [] →
      Takes X (fun cls d _ H => E cls d H) → PassesOwn (model X.prog X.w) X.A X.env X.xe → MSs E X (defBody st) b) :
    FnG P w K mg base (L2.CX P w) (k + 1) f fd ps (spF ⟨K, mg, Tbl.tabs⟩ ps.length (mFn N.length b)) := by
  obtain ⟨oc, od, kV, doc, pm, an, cdv, ct, osl, rfl, lk, hcd⟩ := F.ex
  refine fnG_of lk hcd Sc (fun vs H Q E h => h.1) fun A outer s H vs Q E hr hgd h => ?_
  obtain ⟨hl, g, B0, ds, R, rs, hm⟩ := h
  have J := hb (cxOf (L2.CX P w) P w K mg base N qual (defScope st) f cdv A outer s H E) E rfl rfl rfl rfl rfl rfl ⟨_, _, rfl⟩ rfl rfl hr hgd (takes_of rfl rfl rfl rfl) PassesOwn.leaving
  refine ⟨_, J.ps, g, B0, [], startM N.length ds, [], R, ?_, J.mono _ _ _ _ ?_ hm⟩
  · have hd : ds.length = vs.length := rs.length
    refine ⟨?_, fun i w hw => ?_⟩
    · unfold startM L2.start
      simp [hd]
    · unfold startM at hw
      by_cases hi : i < ds.length
      · rw [List.getElem?_append_left (by simpa using hi), List.getElem?_map] at hw
        cases hx : ds[i]? with
        | none => rw [hx] at hw; cases hw
        | some y =>
          rw [hx] at hw
          cases hw
          obtain ⟨v, hv, rv⟩ := rs.get hx
          refine ⟨v, ?_, rv⟩
          unfold L2.start
          rw [List.getElem?_append_left (by rw [List.length_map, ← hd]; exact hi), List.getElem?_map, hv]
          rfl
      · rw [List.getElem?_append_right (by simpa using hi), List.getElem?_replicate] at hw
        split at hw <;> cases hw
  · exact ⟨fun _ _ z g' ρ' H' σ' R' e N' => z g' H' .non R'.nil e.nil .non, fun x z g' ρ' S' H' v R' e r => z g' H' v R'.nil e.nil r, fun _ _ z => z.elim, fun _ _ z => z.elim, fun _ z => z⟩
/-- around a call -/
abbrev B0c (g : Gh) (B0 : Addr → Prop) (ρ : List Addr) (S : Sto) : Addr → Prop := Bad g B0 ρ S
theorem Rel.call (R : Rel C g B0 ρ S H) : Rel C g (B0c g B0 ρ S) [] [] H := ⟨rfl, fun i o a h => by simp at h, fun i j o o' a h => by simp at h, fun i o a h => by simp at h, fun a h => R.badSome h, R.dr⟩
theorem bad_call {b : Addr} : Bad g (B0c g B0 ρ S) [] [] b ↔ Bad g B0 ρ S b := by
  constructor
  · rintro (h | h)
    · exact h
    · exact .inr (.inl (Own.nil.mp h))
  · exact .inl
theorem Rel.back (R : Rel C g B0 ρ S H) (R' : Rel C g' (B0c g B0 ρ S) [] [] H') (e : Ext g (B0c g B0 ρ S) [] [] H g' [] [] H') : Rel C g' B0 ρ S H' ∧ Ext g B0 ρ S H g' ρ S H' := by
  have nd : ∀ b o, H b = some o → ¬ DrA g b → ¬ DrA g' b := fun b o h n z => e.own b o h (fun y => n (Own.nil.mp y)) (Own.nil.mpr z)
  have kp : ∀ b o, H b = some o → ¬ DrA g b → H' b = some o := fun b o h n => e.keep b o h fun y => n (Own.nil.mp y)
  have E1 : Ext g B0 ρ S H g' ρ S H' := ⟨e.imm, fun b o h n => kp b o h fun z => n (.inl z), fun b o h n z => z.elim (nd b o h fun z => n (.inl z)) (fun z => n (.inr z)), e.gh, ⟨[], by simp⟩⟩
  exact ⟨⟨R.len, fun i o a h1 h2 => (R.obj i o a h1 h2).mono E1.up ⟨[], by simp⟩ fun u h l => kp a u h (R.out i o a h1 l h2).2, R.inj, fun i o a h1 h2 h3 => ⟨(R.out i o a h1 h2 h3).1, by
    obtain ⟨u, hu⟩ := R.badSome (.inr (.inr ⟨i, o, h1, h2, h3⟩))
    exact nd a u hu (R.out i o a h1 h2 h3).2⟩, fun a h => R'.b0 a (.inl h), R'.dr⟩, E1⟩
theorem bad_back {b : Addr} (h : Bad g' B0 ρ S b) : Bad g' (B0c g B0 ρ S) [] [] b := by
  rcases h with h | h | h
  · exact .inl (.inl h)
  · exact .inr (.inl h)
  · exact .inl (.inr (.inr h))
theorem RX.mono {B B' : Addr → Prop} (u : Up g B H g B' H) {x : D} {cls : Value} {d : Option Addr} (h : RX C g B H x cls d) : RX C g B' H x cls d := by
  cases h with
  | exc0 m => exact .exc0 m
  | exc1 m hd r => exact .exc1 m hd (r.mono u)
theorem XPost.call {x : D} (h : XPost C E g B0 ρ S H x) : XPost C E g (B0c g B0 ρ S) [] [] H x := fun g' H' cls d R xe r => h g' H' cls d (R.dropB fun _ z => .inl z)
  ⟨xe.imm, fun b o a n => xe.keep b o a fun z => n (.inl (Own.nil.mp z)), fun b o a n => xe.own b o a fun z => n (.inl (Own.nil.mp z)), xe.gh⟩ (r.mono (Up.weak fun b z => z.elim (fun z => .inl (.inl z)) .inr))
end
def mCall (m : MF) (t : MA) : MX := fun env S Q E => t env S (fun ws S1 => ∃ ds, datas ws = some ds ∧ m ds (fun x => Q (.d x) S1) E) E
/-- no list, no dict, no object within -/
def flatD : D → Bool
  | .non | .bl _ | .int _ | .str _ => true
  | .tup xs => xs.all fun x => match x with
    | .non | .bl _ | .int _ | .str _ => true
    | _ => false
  | _ => false
section
variable {E : XK} {X : Cx} {k : Nat} {f : Addr} {fd : FuncData} {ps : List Str} {m : MF} {x : Str} {e : Expr} {es : List Expr} {t : MA} {p pos : Pos} {n : Nat}
theorem call_go (mm : MonoF m) {Q : VK} {g : Gh} {B0 : Addr → Prop} {ρ : List Addr} {S : Sto} {H : Hp} {ds : List D} {vs : List V} {Qm Em : D → Prop} (C : Cxt) (hl : vs.length = n) (R : Rel C g B0 ρ S H) (r : RVs C g (Bad g B0 ρ S) H ds vs) (h : m ds Qm Em) (hx : ∀ x, Em x → XPost C E g B0 ρ S H x)
    (k : ∀ x, Qm x → OkP C g B0 ρ S H Q (.d x) S) : spF C n m vs H Q E := by
  refine ⟨hl, g, B0c g B0 ρ S, ds, R.call, r.mono (Up.weak fun b z => bad_call.mp z), mm _ _ _ _ _ (fun x q g' H' v R' e' r' => ?_) (fun x z => (hx x z).call) h⟩
  obtain ⟨R2, e2⟩ := R.back R' e'
  exact k x q g' ρ H' v R2 e2 (r'.mono (Up.weak fun b z => bad_back z))
theorem me_call (F : FnG X.prog X.w X.K X.mg X.base (L2.CX X.prog X.w) k f fd ps (spF (ctx X) n m)) (mm : MonoF m) (tk : Takes X (fun cls d _ H => E cls d H)) (hgd : X.A.guards = some []) (hr : Room k X.A) (hm : X.mg x = some (.ref f)) (hk : PySem.W.keepIn X.K (.ref f) = true) (hb : Binds X.K fd ps []) (ha : MAJ E X (e :: es) t)
    (hn : (e :: es).length = n := by rfl) (hg : Gl X x := by rfl) (hdb : (x == ("__debug__" : Str)) = false := by decide) (he : starEach (e :: es) X.env = (false, eval e X.env) :: starEach es X.env := by rfl) (hpl : (backTo pos (starEach es X.env)).any (·.1) = false := by rfl) : ME E X (.Call (.Name x p) (e :: es) [] pos) (mCall m t) := by
  refine ⟨PE.imp (pe_callG F hgd hr hg hm hk hb (fun σ => passAt tk σ) ha.pa hdb he hpl) fun σ H Q ⟨g, B0, ρ, env, S, R, N, q⟩ => ?_, fun env S Q Q' E E' h hx q => ha.mono _ _ _ _ _ _ (fun w S' ⟨ds, a, b⟩ => ⟨ds, a, mm _ _ _ _ _ (fun x z => h _ _ z) hx b⟩) hx q⟩
  refine tMA.go ha.mono R N (ha.len _ _ _ _ q) (fun _ z => z) fun ws S1 ⟨hl, ds, hd, q1⟩ g1 ρ1 H1 vs R1 e1 r1 => ?_
  refine call_go mm (ctx X) (by rw [← Paired.len r1, hl]; exact hn) R1 (Paired.rws r1 hd) q1 (fun x z => z.ext e1) fun y z g' ρ' H' v R' e' r' => z g' ρ' H' v R' (e1.trans e') r'
end
end RW
/-! RwOps: operators, comparisons, subscripts, slices, built-in calls on data. -/
namespace RW
open PySem PySem.Spec PyProof.Rows L2
variable [Tbl]

/-! ### data as the library's data -/
mutual
def toPy : D → Option PyData
  | .non => some .none
  | .bl b => some (.bool b)
  | .int i => some (.int i)
  | .str x => some (.str x)
  | .tup xs => (toPys xs).map .tuple
  | .lst xs => (toPys xs).map .list
  | _ => none
def toPys : List D → Option (List PyData)
  | [] => some []
  | x :: xs => match toPy x, toPys xs with
    | some p, some ps => some (p :: ps)
    | _, _ => none
end
/-- a value to be read: a list may be one that changes later -/
inductive RR (C : Cxt) (g : Gh) (B : Addr → Prop) (H : Hp) : D → V → Prop
  | rv {d : D} {v : V} : RV C g B H d v → RR C g B H d v
  | ls {a : Addr} {vs : List V} {xs : List D} : H a = some (.lst vs) → RVs C g B H xs vs → RR C g B H (.lst xs) (.ref a)
def rd (S : Sto) : W → Option D
  | .d x => some x
  | .ref i => match S[i]? with
    | some (.lst ws) => (datas ws).map D.lst
    | some (.frz x) => some x
    | _ => none
section
variable {C : Cxt} {g : Gh} {B B0 : Addr → Prop} {ρ : List Addr} {S : Sto} {H : Hp}
theorem Rel.rd (R : Rel C g B0 ρ S H) {w : W} {v : V} {d : D} (r : RW C g (Bad g B0 ρ S) ρ H w v) (e : RW.rd S w = some d) : RR C g (Bad g B0 ρ S) H d v := by
  cases w with
  | d x => cases e; exact .rv r
  | ref i =>
    obtain ⟨a, ha, ev⟩ := r
    subst ev
    unfold RW.rd at e
    simp only at e
    cases hs : S[i]? with
    | none => rw [hs] at e; cases e
    | some o =>
      rw [hs] at e
      have q := R.obj i o a hs ha
      cases o with
      | lst ws =>
        simp only at e
        cases hd : datas ws with
        | none => rw [hd] at e; cases e
        | some xs =>
          rw [hd] at e
          cases e
          obtain ⟨vs, h1, h2⟩ := q
          exact .ls h1 (Paired.rws h2 hd)
      | ins c fs => cases e
      | frz y =>
        cases e
        exact .rv q
      | dK kvs => cases e
      | dT kvs => cases e
theorem RR.sqL {xs : List D} {v : V} (h : RR C g B H (.lst xs) v) : ∃ a vs, v = .ref a ∧ SqL C.K H a vs ∧ RVs C g B H xs vs := by
  cases h with
  | rv h => cases h with
    | lst h r => exact ⟨_, _, rfl, h.sq, r⟩
  | ls h r => exact ⟨_, _, rfl, .inl (.inl h), r⟩
theorem RV.sqT {xs : List D} {v : V} (h : RV C g B H (.tup xs) v) : ∃ a vs, v = .ref a ∧ SqT C.K H a vs ∧ RVs C g B H xs vs := by
  cases h with
  | tup h r => exact ⟨_, _, rfl, .inl (.inl h), r⟩
theorem RR.toRV {d : D} {v : V} (h : RR C g B H d v) (n : ∀ xs, d ≠ .lst xs) : RV C g B H d v := by
  cases h with
  | rv h => exact h
  | ls _ _ => exact absurd rfl (n _)
theorem RR.sqT {xs : List D} {v : V} (h : RR C g B H (.tup xs) v) : ∃ a vs, v = .ref a ∧ SqT C.K H a vs ∧ RVs C g B H xs vs := (h.toRV fun _ => by simp).sqT
mutual
theorem RV.dp : ∀ (d : D) (v : V) (p : PyData), RV C g B H d v → toPy d = some p → Dp C.K H v p
  | .non, _, _, h, e => by cases h; cases e; exact .non
  | .bl _, _, _, h, e => by cases h; cases e; exact .bl _
  | .int _, _, _, h, e => by cases h; cases e; exact .int _
  | .str _, _, _, h, e => by cases h; cases e; exact .str _
  | .tup xs, _, p, h, e => by
    cases h with
    | tup h r =>
      unfold toPy at e
      cases q : toPys xs with
      | none => rw [q] at e; cases e
      | some ps => rw [q] at e; cases e; exact .tup (.inl (.inl h)) (RVs.dp xs _ _ r q)
  | .lst xs, _, p, h, e => by
    cases h with
    | lst h r =>
      unfold toPy at e
      cases q : toPys xs with
      | none => rw [q] at e; cases e
      | some ps => rw [q] at e; cases e; exact .lst h.sq (RVs.dp xs _ _ r q)
  | .dic _, _, _, _, e => by simp [toPy] at e
  | .ins _ _, _, _, _, e => by simp [toPy] at e
  | .exc _ _, _, _, _, e => by simp [toPy] at e
  | .gl _, _, _, _, e => by simp [toPy] at e
  | .drw, _, _, _, e => by simp [toPy] at e
  | .ty _, _, _, _, e => by simp [toPy] at e
  | .act _ _ _, _, _, _, e => by simp [toPy] at e
theorem RVs.dp : ∀ (ds : List D) (vs : List V) (ps : List PyData), RVs C g B H ds vs → toPys ds = some ps → DpAll C.K H vs ps
  | [], _, _, h, e => by cases h; unfold toPys at e; cases e; exact .nil
  | d :: ds, _, _, h, e => by
    cases h with
    | cons h r =>
      unfold toPys at e
      cases q1 : toPy d with
      | none => rw [q1] at e; simp at e
      | some p =>
        cases q2 : toPys ds with
        | none => rw [q1, q2] at e; simp at e
        | some ps => rw [q1, q2] at e; cases e; exact .cons (RV.dp d _ _ h q1) (RVs.dp ds _ _ r q2)
end
theorem RR.dp {d : D} {v : V} {p : PyData} (h : RR C g B H d v) (e : toPy d = some p) : Dp C.K H v p := by
  cases h with
  | rv h => exact RV.dp _ _ _ h e
  | @ls a vs xs h r =>
    unfold toPy at e
    cases q : toPys xs with
    | none => rw [q] at e; cases e
    | some ps => rw [q] at e; cases e; exact .lst (.inl (.inl h)) (RVs.dp xs _ _ r q)
end

/-! ### operators on data -/
def opC (c : D → D → Prop) (f : D → D → D) : MO := fun S w1 w2 P => ∃ a b, rd S w1 = some a ∧ rd S w2 = some b ∧ c a b ∧ P (f a b)
def OpS2 (X : Cx) (r : R2) (c : D → D → Prop) (f : D → D → D) : Prop := ∀ g B0 ρ S H a b x y Q, Rel (ctx X) g B0 ρ S H → RR (ctx X) g (Bad g B0 ρ S) H a x → RR (ctx X) g (Bad g B0 ρ S) H b y → c a b →
  (∀ H' z, Rel (ctx X) g B0 ρ S H' → Ext g B0 ρ S H g ρ S H' → RV (ctx X) g (Bad g B0 ρ S) H' (f a b) z → Q z H') → r x y H Q
def OpD (X : Cx) (F : Value → Value → Sem Value) (c : D → D → Prop) (f : D → D → D) : Prop := ∃ r, OpR X F r ∧ OpS2 X r c f
section
variable {X : Cx} {F : Value → Value → Sem Value} {c c' : D → D → Prop} {f : D → D → D}
theorem OpD.m (h : OpD X F c f) : OpM X F (opC c f) := by
  obtain ⟨r, h1, h2⟩ := h
  exact ⟨⟨r, h1, fun g B0 ρ S H x y w1 w2 P Q R r1 r2 ⟨a, b, ea, eb, hc, p⟩ k => h2 g B0 ρ S H a b x y Q R (R.rd r1 ea) (R.rd r2 eb) hc fun H' z R' e' rz => k H' z _ R' e' rz p⟩,
    fun S w1 w2 P P' k ⟨a, b, ea, eb, hc, p⟩ => ⟨a, b, ea, eb, hc, k _ p⟩⟩
theorem OpD.or (h : OpD X F c f) (h' : OpD X F c' f) : OpD X F (fun a b => c a b ∨ c' a b) f := by
  obtain ⟨r, h1, h2⟩ := h
  obtain ⟨r', h1', h2'⟩ := h'
  exact ⟨_, h1.or h1', fun g B0 ρ S H a b x y Q R ra rb hc k => hc.elim (fun hc => .inl (h2 g B0 ρ S H a b x y Q R ra rb hc k)) fun hc => .inr (h2' g B0 ρ S H a b x y Q R ra rb hc k)⟩
theorem OpD.imp (h : OpD X F c f) (i : ∀ a b, c' a b → c a b) : OpD X F c' f := by
  obtain ⟨r, h1, h2⟩ := h
  exact ⟨r, h1, fun g B0 ρ S H a b x y Q R ra rb hc k => h2 g B0 ρ S H a b x y Q R ra rb (i _ _ hc) k⟩
theorem OpD.fn {f' : D → D → D} (h : OpD X F c f) (i : ∀ a b, c a b → f' a b = f a b) : OpD X F c f' := by
  obtain ⟨r, h1, h2⟩ := h
  exact ⟨r, h1, fun g B0 ρ S H a b x y Q R ra rb hc k => h2 g B0 ρ S H a b x y Q R ra rb hc fun H' z R' e' rz => k H' z R' e' (by rw [i _ _ hc]; exact rz)⟩
def cI (C : Int → Int → Prop) : D → D → Prop
  | .int i, .int j => C i j
  | _, _ => False
def iD (g : Int → Int → Int) : D → D → D
  | .int i, .int j => .int (g i j)
  | _, _ => .non
def bD (g : Int → Int → Bool) : D → D → D
  | .int i, .int j => .bl (g i j)
  | _, _ => .non
abbrev cII : D → D → Prop := cI fun _ _ => True
theorem cI_inv {C : Int → Int → Prop} : ∀ {a b : D}, cI C a b → ∃ i j, a = .int i ∧ b = .int j ∧ C i j
  | .int i, .int j, h => ⟨i, j, rfl, rfl, h⟩
theorem RR.int {C : Cxt} {g : Gh} {B : Addr → Prop} {H : Hp} {i : Int} {x : V} (h : RR C g B H (.int i) x) : x = .int i := by
  cases h with
  | rv h => cases h; rfl
theorem RR.str {C : Cxt} {g : Gh} {B : Addr → Prop} {H : Hp} {i : Str} {x : V} (h : RR C g B H (.str i) x) : x = .str i := by
  cases h with
  | rv h => cases h; rfl
theorem RR.bl {C : Cxt} {g : Gh} {B : Addr → Prop} {H : Hp} {i : Bool} {x : V} (h : RR C g B H (.bl i) x) : x = .bl i := by
  cases h with
  | rv h => cases h; rfl
theorem RR.non {C : Cxt} {g : Gh} {B : Addr → Prop} {H : Hp} {x : V} (h : RR C g B H .non x) : x = .non := by
  cases h with
  | rv h => cases h; rfl
theorem opd_rI {C : Int → Int → Prop} {g : Int → Int → Int} (h : OpR X F (rI C fun i j => .int (g i j))) : OpD X F (cI C) (iD g) := ⟨_, h, fun gh B0 ρ S H a b x y Q R ra rb hc k => by
  obtain ⟨i, j, rfl, rfl, hc⟩ := cI_inv hc
  exact ⟨i, j, ra.int, rb.int, hc, k H _ R Ext.refl (.int _)⟩⟩
theorem opd_rI0 {g : Int → Int → Int} (h : OpR X F (rI0 fun i j => .int (g i j))) : OpD X F cII (iD g) := ⟨_, h, fun gh B0 ρ S H a b x y Q R ra rb hc k => by
  obtain ⟨i, j, rfl, rfl, hc⟩ := cI_inv hc
  exact ⟨i, j, ra.int, rb.int, k H _ R Ext.refl (.int _)⟩⟩
theorem opd_rB0 {g : Int → Int → Bool} (h : OpR X F (rI0 fun i j => .bl (g i j))) : OpD X F cII (bD g) := ⟨_, h, fun gh B0 ρ S H a b x y Q R ra rb hc k => by
  obtain ⟨i, j, rfl, rfl, hc⟩ := cI_inv hc
  exact ⟨i, j, ra.int, rb.int, k H _ R Ext.refl (.bl _)⟩⟩
theorem o_sub : OpM X (binaryOp .Sub) (opC cII (iD fun i j => i - j)) := (opd_rI0 op_sub).m
theorem o_fdiv : OpM X (binaryOp .FloorDiv) (opC (cI CDiv) (iD fun i j => i / j)) := (opd_rI op_fdiv).m
theorem o_mod : OpM X (binaryOp .Mod) (opC (cI fun _ j => 0 < j) (iD fun i j => i % j)) := (opd_rI op_mod).m
theorem o_pow : OpM X (binaryOp .Pow) (opC (cI CPow) (iD fun i j => i ^ j.toNat)) := (opd_rI op_pow).m
theorem o_mul : OpM X (binaryOp .Mult) (opC (cI CMul) (iD fun i j => i * j)) := (opd_rI op_mul).m
theorem o_lt : OpM X (compareOp .Lt) (opC cII (bD fun i j => decide (i < j))) := (opd_rB0 op_lt).m
theorem o_le : OpM X (compareOp .LtE) (opC cII (bD fun i j => decide (i ≤ j))) := (opd_rB0 op_le).m
theorem o_gt : OpM X (compareOp .Gt) (opC cII (bD fun i j => decide (j < i))) := (opd_rB0 op_gt).m
theorem o_ge : OpM X (compareOp .GtE) (opC cII (bD fun i j => decide (j ≤ i))) := (opd_rB0 op_ge).m

/-! + -/
def plusD : D → D → D
  | .int i, .int j => .int (i + j)
  | .tup xs, .tup ys => .tup (xs ++ ys)
  | .lst xs, .lst ys => .lst (xs ++ ys)
  | .str x, .str y => .str (x ++ y)
  | _, _ => .non
def cPlus : D → D → Prop
  | .int _, .int _ => True
  | .tup xs, .tup ys => xs.length + ys.length ≤ line
  | .lst xs, .lst ys => xs.length + ys.length ≤ line
  | .str x, .str y => x.length + y.length ≤ line
  | _, _ => False
def rCatL (K : PySem.W.Frag) : R2 := fun x y H Q => ∃ l b xs zs, x = .ref l ∧ y = .ref b ∧ SqL K H l xs ∧ SqL K H b zs ∧ xs.length + zs.length ≤ sizeLine ∧ ∀ p, H p = none → Q (.ref p) (upd H p (.lst (xs ++ zs)))
theorem op_catL : OpR X (binaryOp .Add) (rCatL X.K) := by
  intro pins s σ H x y v u Q I rx ry h
  obtain ⟨l, b, xs, zs, rfl, rfl, hH, hB, hz, q⟩ := h
  cases rx
  cases ry
  obtain ⟨its, r, pl, _⟩ := I.list hH
  obtain ⟨its2, r2, pl2, _⟩ := I.list hB
  have hl := r.length
  have hl2 := r2.length
  obtain ⟨⟨cls, dd, data, sl⟩, ho, hc, n, hd⟩ := pl.isList
  obtain ⟨⟨cls2, dd2, data2, sl2⟩, ho2, hc2, n2, hd2⟩ := pl2.isList
  simp only at hc hd hc2 hd2
  subst hc hd hc2 hd2
  have e : its.toArray ++ its2.toArray = (its ++ its2).toArray := by simp
  refine concat_meets ⟨_, ho, rfl⟩ ⟨_, ho2, rfl⟩ noFill_list_add seq_list_add PySem.F.slot_list_add PySem.F.entry_list_add (PySem.F.args_list_add_2 _ _) (list_addW l b its.toArray its2.toArray n n2 dd dd2 sl sl2 (by simp only [List.size_toArray]; omega)) ⟨ho, ho2, ?_⟩
  rw [e]
  exact ⟨.ref _, _, I.lnew (t' := s.toks) (r.append r2) (by rw [List.length_append]; omega), rfl, q _ I.fresh⟩
theorem opd_catL : OpD X (binaryOp .Add) (fun a b => ∃ xs ys, a = .lst xs ∧ b = .lst ys ∧ xs.length + ys.length ≤ line) plusD := ⟨_, op_catL, fun g B0 ρ S H a b x y Q R ra rb hc k => by
  obtain ⟨xs, ys, rfl, rfl, hl⟩ := hc
  obtain ⟨p, vs, rfl, s1, r1⟩ := ra.sqL
  obtain ⟨p2, us, rfl, s2, r2⟩ := rb.sqL
  refine ⟨p, p2, vs, us, rfl, rfl, s1, s2, by rw [← r1.length, ← r2.length]; exact line_le hl, fun q hq => ?_⟩
  obtain ⟨R2, e2, nb⟩ := R.new (o := .lst (vs ++ us)) hq
  exact k _ _ R2 e2 (.lst (.inl ⟨upd_same, nb⟩) ((r1.append r2).mono e2.up))⟩
theorem opd_catT : OpD X (binaryOp .Add) (fun a b => ∃ xs ys, a = .tup xs ∧ b = .tup ys ∧ xs.length + ys.length ≤ line) plusD := ⟨_, op_catA, fun g B0 ρ S H a b x y Q R ra rb hc k => by
  obtain ⟨xs, ys, rfl, rfl, hl⟩ := hc
  have rx := ra.toRV fun _ => by simp
  have ry := rb.toRV fun _ => by simp
  obtain ⟨p, vs, ep, s1, r1⟩ := ra.sqT
  obtain ⟨p2, us, ep2, s2, r2⟩ := rb.sqT
  subst ep ep2
  refine ⟨p, p2, vs, us, rfl, rfl, s1, s2, by rw [← r1.length, ← r2.length]; exact line_le hl, fun z => ?_, fun z1 z2 => ?_, fun z1 z2 q hq => ?_⟩
  · subst z
    cases r1
    exact k _ _ R Ext.refl ry
  · subst z2
    cases r2
    refine k _ _ R Ext.refl ?_
    show RV _ _ _ _ (.tup (xs ++ [])) _
    rw [List.append_nil]
    exact rx
  · obtain ⟨R2, e2, nb⟩ := R.new (o := .tup (vs ++ us)) hq
    exact k _ _ R2 e2 (.tup upd_same ((r1.append r2).mono e2.up))⟩
theorem o_add : OpM X (binaryOp .Add) (opC cPlus plusD) := by
  refine (OpD.imp (((opd_rI0 op_add).fn (f' := plusD) ?_).or (opd_catT.or (opd_catL.or (?_ : OpD X (binaryOp .Add) (fun a b => ∃ x y, a = .str x ∧ b = .str y ∧ x.length + y.length ≤ line) plusD)))) ?_).m
  · intro a b h
    obtain ⟨i, j, rfl, rfl, _⟩ := cI_inv h
    rfl
  · refine ⟨_, op_add_str, fun g B0 ρ S H a b x y Q R ra rb hc k => ?_⟩
    obtain ⟨z, w, rfl, rfl, hl⟩ := hc
    exact ⟨z, w, ra.str, rb.str, line_le hl, k H _ R Ext.refl (.str _)⟩
  · intro a b h
    unfold cPlus at h
    split at h
    · exact .inl trivial
    · exact .inr (.inl ⟨_, _, rfl, rfl, h⟩)
    · exact .inr (.inr (.inl ⟨_, _, rfl, rfl, h⟩))
    · exact .inr (.inr (.inr ⟨_, _, rfl, rfl, h⟩))
    · exact h.elim

/-! == -/
def eqD (a b : D) : Bool := match toPy a, toPy b with
  | some p, some q => PyData.eqv p q
  | _, _ => false
def cEq (a b : D) : Prop := ∃ p q, toPy a = some p ∧ toPy b = some q ∧ SeqAt.shaped p = true ∧ SeqAt.shaped q = true
theorem eqD_of {a b : D} {p q : PyData} (h : toPy a = some p) (h' : toPy b = some q) : eqD a b = PyData.eqv p q := by
  unfold eqD
  rw [h, h']
theorem o_eq (hu : X.A.units + 64 < cLine) : OpM X (compareOp .Eq) (opC cEq fun a b => .bl (eqD a b)) := OpD.m ⟨_, op_eqD hu, fun g B0 ρ S H a b x y Q R ra rb hc k => by
  obtain ⟨p, q, h1, h2, s1, s2⟩ := hc
  refine ⟨p, q, ra.dp h1, rb.dp h2, s1, s2, ?_⟩
  rw [← eqD_of h1 h2]
  exact k H _ R Ext.refl (.bl _)⟩
theorem o_ne (hu : X.A.units + 64 < cLine) : OpM X (compareOp .NotEq) (opC cEq fun a b => .bl (!eqD a b)) := OpD.m ⟨_, op_neD hu, fun g B0 ρ S H a b x y Q R ra rb hc k => by
  obtain ⟨p, q, h1, h2, s1, s2⟩ := hc
  refine ⟨p, q, ra.dp h1, rb.dp h2, s1, s2, ?_⟩
  rw [← eqD_of h1 h2]
  exact k H _ R Ext.refl (.bl _)⟩

/-! is -/
def isNon : D → Bool
  | .non => true
  | _ => false
theorem RR.isNon {C : Cxt} {g : Gh} {B : Addr → Prop} {H : Hp} {d : D} {x : V} (h : RR C g B H d x) : decide (x = V.non) = RW.isNon d := by
  cases h with
  | rv h => cases h <;> simp [RW.isNon]
  | ls _ _ => simp [RW.isNon]
theorem o_isN : OpM X (compareOp .Is) (opC (fun _ b => b = .non) fun a _ => .bl (isNon a)) := OpD.m ⟨_, op_isN, fun g B0 ρ S H a b x y Q R ra rb hc k => by
  subst hc
  refine ⟨rb.non, ?_⟩
  rw [ra.isNon]
  exact k H _ R Ext.refl (.bl _)⟩
theorem o_notN : OpM X (compareOp .IsNot) (opC (fun _ b => b = .non) fun a _ => .bl (!isNon a)) := OpD.m ⟨_, op_notN, fun g B0 ρ S H a b x y Q R ra rb hc k => by
  subst hc
  refine ⟨rb.non, ?_⟩
  rw [ra.isNon]
  exact k H _ R Ext.refl (.bl _)⟩
def isBlD (a b : D) : Bool := match a, b with
  | .bl i, .bl j => i == j
  | _, _ => false
def isBlV (x : V) (b : Bool) : Bool := match x with
  | .bl i => i == b
  | _ => false
theorem op_isB : OpR X (compareOp .Is) (fun x y H Q => ∃ b, y = .bl b ∧ Q (.bl (isBlV x b)) H) := by
  intro pins s σ H x y v u Q I rx ry h
  obtain ⟨b, rfl, q⟩ := h
  cases (show u = Value.bool b from ry)
  have hp : plainIs v (.bool b) = true := by cases x <;> first | (cases (show v = _ from rx); rfl) | (obtain ⟨t, e⟩ := (show ∃ t, v = _ from rx); subst e; rfl)
  have he : (v == Value.bool b) = isBlV x b := by
    cases x with
    | bl i =>
      cases (show v = _ from rx)
      cases i <;> cases b <;> rfl
    | _ => first | (cases (show v = _ from rx); rfl) | (obtain ⟨t, e⟩ := (show ∃ t, v = _ from rx); subst e; rfl)
  exact wpAny_is_plain hp ⟨.bl _, H, I, by rw [he]; rfl, q⟩
theorem op_isNotB : OpR X (compareOp .IsNot) (fun x y H Q => ∃ b, y = .bl b ∧ Q (.bl (!isBlV x b)) H) := by
  intro pins s σ H x y v u Q I rx ry h
  obtain ⟨b, rfl, q⟩ := h
  cases (show u = Value.bool b from ry)
  have hp : plainIs v (.bool b) = true := by cases x <;> first | (cases (show v = _ from rx); rfl) | (obtain ⟨t, e⟩ := (show ∃ t, v = _ from rx); subst e; rfl)
  have he : (v == Value.bool b) = isBlV x b := by
    cases x with
    | bl i =>
      cases (show v = _ from rx)
      cases i <;> cases b <;> rfl
    | _ => first | (cases (show v = _ from rx); rfl) | (obtain ⟨t, e⟩ := (show ∃ t, v = _ from rx); subst e; rfl)
  exact wpAny_isNot_plain hp ⟨.bl _, H, I, by rw [he]; rfl, q⟩
theorem RR.isBl {C : Cxt} {g : Gh} {B : Addr → Prop} {H : Hp} {d : D} {x : V} (b : Bool) (h : RR C g B H d x) : isBlV x b = isBlD d (.bl b) := by
  cases h with
  | rv h => cases h <;> rfl
  | ls _ _ => rfl
theorem o_isB : OpM X (compareOp .Is) (opC (fun _ b => ∃ k, b = .bl k) fun a b => .bl (isBlD a b)) := OpD.m ⟨_, op_isB, fun g B0 ρ S H a b x y Q R ra rb ⟨j, hc⟩ k => by
  subst hc
  refine ⟨j, rb.bl, ?_⟩
  rw [ra.isBl]
  exact k H _ R Ext.refl (.bl _)⟩
theorem o_isNotB : OpM X (compareOp .IsNot) (opC (fun _ b => ∃ k, b = .bl k) fun a b => .bl (!isBlD a b)) := OpD.m ⟨_, op_isNotB, fun g B0 ρ S H a b x y Q R ra rb ⟨j, hc⟩ k => by
  subst hc
  refine ⟨j, rb.bl, ?_⟩
  rw [ra.isBl]
  exact k H _ R Ext.refl (.bl _)⟩

/-! in -/
def fl1 : D → Bool
  | .non | .bl _ | .int _ | .str _ => true
  | _ => false
def eq1 : D → D → Bool
  | .non, .non => true
  | .bl a, .bl b => a == b
  | .bl a, .int b => (if a then 1 else 0) == b
  | .int a, .bl b => a == (if b then 1 else 0)
  | .int a, .int b => a == b
  | .str a, .str b => a == b
  | _, _ => false
def in1 (x : D) (xs : List D) : Bool := xs.any fun y => eq1 y x
theorem RV.fl {C : Cxt} {g : Gh} {B : Addr → Prop} {H : Hp} {d : D} {v : V} (h : RV C g B H d v) (f : fl1 d = true) : flatV v = true := by
  cases h <;> first | rfl | simp [fl1] at f
theorem RV.eq1 {C : Cxt} {g : Gh} {B : Addr → Prop} {H : Hp} {d e : D} {v u : V} (h : RV C g B H d v) (h' : RV C g B H e u) (f : fl1 d = true) (f' : fl1 e = true) : eqV v u = RW.eq1 d e := by
  cases h <;> first | (simp [fl1] at f; done) | (cases h' <;> first | (simp [fl1] at f'; done) | rfl)
theorem RVs.flat {C : Cxt} {g : Gh} {B : Addr → Prop} {H : Hp} : ∀ {ds : List D} {vs : List V}, RVs C g B H ds vs → ds.all fl1 = true → vs.all flatV = true
  | _, _, .nil, _ => rfl
  | _, _, .cons h r, f => by
    rw [List.all_cons, Bool.and_eq_true] at f ⊢
    exact ⟨h.fl f.1, RVs.flat r f.2⟩
theorem RVs.in1 {C : Cxt} {g : Gh} {B : Addr → Prop} {H : Hp} {d : D} {v : V} (h : RV C g B H d v) (f : fl1 d = true) : ∀ {ds : List D} {vs : List V}, RVs C g B H ds vs → ds.all fl1 = true → inV v vs = RW.in1 d ds
  | _, _, .nil, _ => rfl
  | _, _, .cons h' r, f' => by
    rw [List.all_cons, Bool.and_eq_true] at f'
    have ih := RVs.in1 h f r f'.2
    unfold inV RW.in1 at ih ⊢
    rw [List.any_cons, List.any_cons, ih, h'.eq1 h f'.1 f]
def seqD : D → List D
  | .lst xs => xs
  | .tup xs => xs
  | _ => []
def isSeq : D → Bool
  | .lst _ => true
  | .tup _ => true
  | _ => false
theorem RR.seq {C : Cxt} {g : Gh} {B : Addr → Prop} {H : Hp} {d : D} {v : V} (h : RR C g B H d v) (s : isSeq d = true) : ∃ a vs, v = .ref a ∧ (SqL C.K H a vs ∨ SqT C.K H a vs) ∧ RVs C g B H (seqD d) vs := by
  cases d with
  | lst xs => obtain ⟨a, vs, e, q, r⟩ := h.sqL; exact ⟨a, vs, e, .inl q, r⟩
  | tup xs => obtain ⟨a, vs, e, q, r⟩ := h.sqT; exact ⟨a, vs, e, .inr q, r⟩
  | _ => simp [isSeq] at s
theorem fl1_nl {d : D} (f : fl1 d = true) : ∀ xs, d ≠ .lst xs := fun xs e => by subst e; simp [fl1] at f
theorem o_in : OpM X (compareOp .In) (opC (fun a b => fl1 a = true ∧ isSeq b = true ∧ (seqD b).all fl1 = true) fun a b => .bl (in1 a (seqD b))) := OpD.m ⟨_, op_in_seq, fun g B0 ρ S H a b x y Q R ra rb ⟨h1, h2, h3⟩ k => by
  obtain ⟨p, vs, e, sq, r⟩ := rb.seq h2
  have rx := ra.toRV (fl1_nl h1)
  refine ⟨p, vs, e, sq, rx.fl h1, r.flat h3, ?_⟩
  rw [if_neg (by decide), RVs.in1 rx h1 r h3]
  exact k H _ R Ext.refl (.bl _)⟩
theorem o_notIn : OpM X (compareOp .NotIn) (opC (fun a b => fl1 a = true ∧ isSeq b = true ∧ (seqD b).all fl1 = true) fun a b => .bl (!in1 a (seqD b))) := OpD.m ⟨_, op_notIn_seq, fun g B0 ρ S H a b x y Q R ra rb ⟨h1, h2, h3⟩ k => by
  obtain ⟨p, vs, e, sq, r⟩ := rb.seq h2
  have rx := ra.toRV (fl1_nl h1)
  refine ⟨p, vs, e, sq, rx.fl h1, r.flat h3, ?_⟩
  rw [if_pos rfl, RVs.in1 rx h1 r h3]
  exact k H _ R Ext.refl (.bl _)⟩
end
end RW
/-! RwOps2: subscripts, slices, built-in calls. -/
namespace RW
open PySem PySem.Spec PyProof.Rows L2
variable [Tbl]
section
variable {E : XK} {X : Cx} {a b : Expr} {ma mb : MX} {pos : Pos}
/-! ### x[i] -/
def fIx (x y : D) : D := match y with
  | .int i => (atI (seqD x) i).getD .non
  | _ => .non
def cIx (x y : D) : Prop := ∃ i d, y = .int i ∧ isSeq x = true ∧ atI (seqD x) i = some d
theorem RVs.atI {C : Cxt} {g : Gh} {B : Addr → Prop} {H : Hp} {ds : List D} {vs : List V} {i : Int} {d : D} (r : RVs C g B H ds vs) (e : L2.atI ds i = some d) : ∃ v, L2.atI vs i = some v ∧ RV C g B H d v := by
  unfold L2.atI at e ⊢
  have hl : ixN vs.length i = ixN ds.length i := by rw [r.length]
  rw [hl]
  cases q : ixN ds.length i with
  | none => rw [q] at e; cases e
  | some j =>
    rw [q] at e
    exact r.get e
theorem me_ix (ha : ME E X a ma) (hb : ME E X b mb) (hs : PlainIx b := by exact fun _ _ => rfl) : ME E X (.Subscript a b pos) (mBin (opC cIx fIx) ma mb) := by
  have h : OpS2 X (fun x y H Q => rIxL X.K x y H Q ∨ rIxT X.K x y H Q) cIx fIx := fun g B0 ρ S H x y vx vy Q R ra rb ⟨i, d, ey, hq, hd⟩ k => by
    subst ey
    have ef : fIx x (.int i) = d := by show (L2.atI (seqD x) i).getD .non = d; rw [hd]; rfl
    have ei := rb.int
    obtain ⟨p, vs, ep, sq, rr⟩ := ra.seq hq
    obtain ⟨v, hv, rv⟩ := rr.atI hd
    rw [ef] at k
    rcases sq with sq | sq
    · exact .inl ⟨p, vs, i, v, ep, ei, sq, hv, k H v R Ext.refl rv⟩
    · exact .inr ⟨p, vs, i, v, ep, ei, sq, hv, k H v R Ext.refl rv⟩
  have ho : ∀ S w1 w2 P P', (∀ d, P d → P' d) → opC cIx fIx S w1 w2 P → opC cIx fIx S w1 w2 P' := fun S w1 w2 P P' k ⟨a, b, ea, eb, hc, p⟩ => ⟨a, b, ea, eb, hc, k _ p⟩
  exact ⟨PE.imp (pe_ix (ix_list.or ix_tup) ha.pe hb.pe hs) (bin_go (fun g B0 ρ S H x y w1 w2 P Q R r1 r2 ⟨a, b, ea, eb, hc, p⟩ k => h g B0 ρ S H a b x y Q R (R.rd r1 ea) (R.rd r2 eb) hc fun H' z R' e' rz => k H' z _ R' e' rz p) ho ha hb), mono_bin ho ha.mono hb.mono⟩

/-! ### x[lo:hi] -/
abbrev MP := MEnv → Sto → (Option Int → Sto → Prop) → (D → Prop) → Prop
def MonoP (m : MP) : Prop := ∀ env S Q Q' E E', (∀ w S', Q w S' → Q' w S') → (∀ x, E x → E' x) → m env S Q E → m env S Q' E'
def tMP (C : Cxt) (E : XK) (m : MP) : TO := fun σ H Q => ∃ g B0 ρ env S, Rel C g B0 ρ S H ∧ EnvR C g (Bad g B0 ρ S) ρ H env σ ∧
  m env S (fun b S' => ∀ g' ρ' H', Rel C g' B0 ρ' S' H' → Ext g B0 ρ S H g' ρ' S' H' → Q b H') (XPost C E g B0 ρ S H)
structure MPJ (E : XK) (X : Cx) (e : Option Expr) (m : MP) : Prop where
  po : PO X e (tMP (ctx X) E m)
  mono : MonoP m
theorem PO.imp {e : Option Expr} {t t' : TO} (h : PO X e t) (i : ∀ σ H Q, t' σ H Q → t σ H Q) : PO X e t' := ⟨fun pins s σ H Q I q => h.run pins s σ H Q I (i σ H Q q)⟩
def pN : MP := fun _ S Q _ => Q none S
def pS (m : MX) : MP := fun env S Q E => m env S (fun w S' => ∃ i, w = .d (.int i) ∧ Q (some i) S') E
theorem mp_none : MPJ E X none pN := ⟨PO.imp po_none fun σ H Q ⟨g, B0, ρ, env, S, R, N, q⟩ => q g ρ H R Ext.refl, fun _ _ _ _ _ _ h _ q => h _ _ q⟩
theorem mp_some (ha : ME E X a ma) : MPJ E X (some a) (pS ma) := by
  refine ⟨PO.imp (po_some ha.pe) fun σ H Q ⟨g, B0, ρ, env, S, R, N, q⟩ => ?_, fun env S Q Q' E E' h hx q => ha.mono _ _ _ _ _ _ (fun w S' ⟨k, e, z⟩ => ⟨k, e, h _ _ z⟩) hx q⟩
  refine tM.go ha.mono R N q (fun _ z => z) fun w S1 ⟨k, ek, q1⟩ g1 ρ1 H1 v1 R1 e1 r1 => ?_
  subst ek
  cases (show RV _ _ _ _ (.int k) v1 from r1)
  exact ⟨k, rfl, q1 g1 ρ1 H1 R1 e1⟩
def cutD (xs : List D) (lo hi : Option Int) : List D := (xs.drop (HT.sIx xs.length 0 lo)).take (HT.sIx xs.length xs.length hi - HT.sIx xs.length 0 lo)
theorem RVs.cut {C : Cxt} {g : Gh} {B : Addr → Prop} {H : Hp} {ds : List D} {vs : List V} (r : RVs C g B H ds vs) (lo hi : Option Int) : RVs C g B H (cutD ds lo hi) (cutV vs lo hi) := by
  unfold cutD cutV
  rw [r.length]
  exact (r.drop _).take _
def slD (x : D) (lo hi : Option Int) : D := match x with
  | .lst xs => .lst (cutD xs lo hi)
  | .tup xs => .tup (cutD xs lo hi)
  | _ => .non
def mSl (me : MX) (ml mh : MP) : MX := fun env S Q E => me env S (fun w S1 => ml env S1 (fun lo S2 => mh env S2 (fun hi S3 => ∃ x, rd S3 w = some x ∧ isSeq x = true ∧ Q (.d (slD x lo hi)) S3) E) E) E
theorem me_slice {lo hi : Option Expr} {ml mh : MP} {p2 : Pos} (ha : ME E X a ma) (hl : MPJ E X lo ml) (hh : MPJ E X hi mh) : ME E X (.Subscript a (.Slice lo hi none p2) pos) (mSl ma ml mh) := by
  refine ⟨PE.imp (pe_slice (sl_list.or sl_tupA) ha.pe hl.po hh.po) fun σ H Q ⟨g, B0, ρ, env, S, R, N, q⟩ => ?_, fun env S Q Q' E E' h hx q => ha.mono _ _ _ _ _ _ (fun w S1 z => hl.mono _ _ _ _ _ _ (fun l S2 z => hh.mono _ _ _ _ _ _ (fun u S3 ⟨x, a, b, c⟩ => ⟨x, a, b, h _ _ c⟩) hx z) hx z) hx q⟩
  refine tM.go ha.mono R N q (fun _ z => z) fun w S1 q1 g1 ρ1 H1 v1 R1 e1 r1 => ?_
  refine ⟨g1, B0, ρ1, env, S1, R1, N.ext e1, hl.mono _ _ _ _ _ _ (fun l S2 q2 g2 ρ2 H2 R2 e2 => ?_) (fun x z => z.ext e1) q1⟩
  have e12 := e1.trans e2
  refine ⟨g2, B0, ρ2, env, S2, R2, N.ext e12, hh.mono _ _ _ _ _ _ (fun u S3 q3 g3 ρ3 H3 R3 e3 => ?_) (fun x z => z.ext e12) q2⟩
  obtain ⟨x, ex, hq, q4⟩ := q3
  have rr := R3.rd ((r1.ext e2).ext e3) ex
  have e13 := e12.trans e3
  cases x with
  | lst xs =>
    obtain ⟨p, vs, ep, sq, rs⟩ := rr.sqL
    refine .inl ⟨p, vs, ep, sq, fun r hr => ?_⟩
    obtain ⟨R4, e4, nb⟩ := R3.new (o := .lst (cutV vs l u)) hr
    exact q4 _ _ _ _ R4 (e13.trans e4) (RV.lst (.inl ⟨upd_same, nb⟩) ((rs.cut l u).mono e4.up))
  | tup xs =>
    have rx := rr.toRV fun _ => by simp
    obtain ⟨p, vs, ep, sq, rs⟩ := rr.sqT
    subst ep
    refine .inr ⟨p, vs, rfl, sq, fun hw => ?_, fun _ r hr => ?_⟩
    · refine q4 _ _ _ _ R3 e13 ?_
      have : slD (.tup xs) l u = .tup xs := by
        show D.tup (cutD xs l u) = .tup xs
        unfold cutD
        rw [rs.length, hw.1, hw.2, List.drop_zero, Nat.sub_zero, ← rs.length, List.take_length]
      show RV _ _ _ _ (slD (.tup xs) l u) _
      rw [this]
      exact rx
    · obtain ⟨R4, e4, nb⟩ := R3.new (o := .tup (cutV vs l u)) hr
      exact q4 _ _ _ _ R4 (e13.trans e4) (RV.tup upd_same ((rs.cut l u).mono e4.up))
  | _ => simp [isSeq] at hq
end

/-! ### built-in calls -/
inductive RRs (C : Cxt) (g : Gh) (B : Addr → Prop) (H : Hp) : List D → List V → Prop
  | nil : RRs C g B H [] []
  | cons {d : D} {v : V} {ds : List D} {vs : List V} : RR C g B H d v → RRs C g B H ds vs → RRs C g B H (d :: ds) (v :: vs)
theorem Rel.rds {C : Cxt} {g : Gh} {B0 : Addr → Prop} {ρ : List Addr} {S : Sto} {H : Hp} (R : Rel C g B0 ρ S H) : ∀ {ws : List W} {vs : List V} {ds : List D}, Paired (RW C g (Bad g B0 ρ S) ρ H) ws vs → mapO (RW.rd S) ws = some ds → RRs C g (Bad g B0 ρ S) H ds vs
  | _, _, _, .nil, e => by cases e; exact .nil
  | w :: ws, _, _, .cons r t, e => by
    unfold mapO at e
    cases hw : RW.rd S w with
    | none => rw [hw] at e; simp at e
    | some y =>
      cases hr : mapO (RW.rd S) ws with
      | none => rw [hw, hr] at e; simp at e
      | some ys =>
        rw [hw, hr] at e
        cases e
        exact .cons (R.rd r hw) (R.rds t hr)
def CallD (X : Cx) (F : Value) (c : List D → Prop) (f : List D → D) : Prop := ∃ r, CallR X F r ∧ ∀ g B0 ρ S H ds vs Q, Rel (ctx X) g B0 ρ S H → RRs (ctx X) g (Bad g B0 ρ S) H ds vs → c ds →
  (∀ H' z, Rel (ctx X) g B0 ρ S H' → Ext g B0 ρ S H g ρ S H' → RV (ctx X) g (Bad g B0 ρ S) H' (f ds) z → Q z H') → r vs H Q
def mCB (c : List D → Prop) (f : List D → D) (t : MA) : MX := fun env S Q E => t env S (fun ws S1 => ∃ ds, mapO (rd S1) ws = some ds ∧ c ds ∧ Q (.d (f ds)) S1) E
section
variable {E : XK} {X : Cx} {x : Str} {e : Expr} {es : List Expr} {m : MX} {t : MA} {p pos : Pos} {id T : String} {c : List D → Prop} {f : List D → D} {F : Value}
theorem CallD.or {c' : List D → Prop} (h : CallD X F c f) (h' : CallD X F c' f) : CallD X F (fun a => c a ∨ c' a) f := by
  obtain ⟨r, h1, h2⟩ := h
  obtain ⟨r', h1', h2'⟩ := h'
  exact ⟨_, h1.or h1', fun g B0 ρ S H ds vs Q R rs hc k => hc.elim (fun hc => .inl (h2 g B0 ρ S H ds vs Q R rs hc k)) fun hc => .inr (h2' g B0 ρ S H ds vs Q R rs hc k)⟩
theorem CallD.imp {c' : List D → Prop} (h : CallD X F c f) (i : ∀ a, c' a → c a) : CallD X F c' f := by
  obtain ⟨r, h1, h2⟩ := h
  exact ⟨r, h1, fun g B0 ρ S H ds vs Q R rs hc k => h2 g B0 ρ S H ds vs Q R rs (i _ hc) k⟩
theorem mono_CB (ht : MonoA t) : MonoX (mCB c f t) := fun env S Q Q' E E' h hx q => ht _ _ _ _ _ _ (fun ws S' ⟨ds, a, b, z⟩ => ⟨ds, a, b, h _ _ z⟩) hx q
theorem cb_go {r : List V → Hp → VK → Prop} (h2 : ∀ g B0 ρ S H ds vs Q, Rel (ctx X) g B0 ρ S H → RRs (ctx X) g (Bad g B0 ρ S) H ds vs → c ds →
  (∀ H' z, Rel (ctx X) g B0 ρ S H' → Ext g B0 ρ S H g ρ S H' → RV (ctx X) g (Bad g B0 ρ S) H' (f ds) z → Q z H') → r vs H Q) (ha : MAJ E X es t) (σ : L2.St) (H : Hp) (Q : VK) (h : tM (ctx X) E (mCB c f t) σ H Q) : tCB r (tMA (ctx X) E t) σ H Q := by
  obtain ⟨g, B0, ρ, env, S, R, N, q⟩ := h
  refine tMA.go ha.mono R N q (fun _ z => z) fun ws S1 ⟨ds, hd, hc, q1⟩ g1 ρ1 H1 vs R1 e1 r1 => ?_
  exact h2 _ _ _ _ _ _ _ _ R1 (R1.rds r1 hd) hc fun H' z R' e' rz => q1 g1 ρ1 H' z R' (e1.trans e') rz
theorem me_callB (hc : CallD X (.builtin id) c f) (hm : X.mg x = none) (hv : bootBuiltins x = some (.builtin id)) (ha : MAJ E X (e :: es) t) (hg : Gl X x := by rfl) (hn : x ≠ "__name__" := by decide) (hdb : (x == ("__debug__" : Str)) = false := by decide)
    (he : starEach (e :: es) X.env = (false, eval e X.env) :: starEach es X.env := by rfl) (hpl : (backTo pos (starEach es X.env)).any (·.1) = false := by rfl) : ME E X (.Call (.Name x p) (e :: es) [] pos) (mCB c f t) := by
  obtain ⟨r, h1, h2⟩ := hc
  exact ⟨PE.imp (pe_callB h1 hg hm hv ha.pa hn hdb he hpl) (cb_go h2 ha), mono_CB ha.mono⟩
theorem me_callTy (hc : CallD X (.type T) c f) (hm : X.mg x = none) (hv : bootBuiltins x = some (.type T)) (ha : MAJ E X (e :: es) t) (hg : Gl X x := by rfl) (hn : x ≠ "__name__" := by decide) (hdb : (x == ("__debug__" : Str)) = false := by decide)
    (he : starEach (e :: es) X.env = (false, eval e X.env) :: starEach es X.env := by rfl) (hpl : (backTo pos (starEach es X.env)).any (·.1) = false := by rfl) : ME E X (.Call (.Name x p) (e :: es) [] pos) (mCB c f t) := by
  obtain ⟨r, h1, h2⟩ := hc
  exact ⟨PE.imp (pe_callTy h1 hg hm hv ha.pa hn hdb he hpl) (cb_go h2 ha), mono_CB ha.mono⟩

theorem RRs.one {C : Cxt} {g : Gh} {B : Addr → Prop} {H : Hp} {d : D} {vs : List V} (h : RRs C g B H [d] vs) : ∃ v, vs = [v] ∧ RR C g B H d v := by
  cases h with
  | cons h r => cases r; exact ⟨_, rfl, h⟩
theorem RRs.two {C : Cxt} {g : Gh} {B : Addr → Prop} {H : Hp} {d d' : D} {vs : List V} (h : RRs C g B H [d, d'] vs) : ∃ v v', vs = [v, v'] ∧ RR C g B H d v ∧ RR C g B H d' v' := by
  cases h with
  | cons h r => obtain ⟨v', rfl, h'⟩ := r.one; exact ⟨_, _, rfl, h, h'⟩
/-- of one datum, of two -/
def c1 (c : D → Prop) : List D → Prop
  | [a] => c a
  | _ => False
def f1 (f : D → D) : List D → D
  | [a] => f a
  | _ => .non
def c2 (c : D → D → Prop) : List D → Prop
  | [a, b] => c a b
  | _ => False
def f2 (f : D → D → D) : List D → D
  | [a, b] => f a b
  | _ => .non
theorem callD1 {c : D → Prop} {f : D → D} {r : List V → Hp → VK → Prop} (h : CallR X F r) (k : ∀ g B0 ρ S H d v Q, Rel (ctx X) g B0 ρ S H → RR (ctx X) g (Bad g B0 ρ S) H d v → c d →
  (∀ H' z, Rel (ctx X) g B0 ρ S H' → Ext g B0 ρ S H g ρ S H' → RV (ctx X) g (Bad g B0 ρ S) H' (f d) z → Q z H') → r [v] H Q) : CallD X F (c1 c) (f1 f) := ⟨r, h, fun g B0 ρ S H ds vs Q R rs hc q => by
  match ds, hc, rs, q with
  | [d], hc, rs, q =>
    obtain ⟨v, rfl, rv⟩ := rs.one
    exact k g B0 ρ S H d v Q R rv hc q⟩
theorem callD2 {c : D → D → Prop} {f : D → D → D} {r : List V → Hp → VK → Prop} (h : CallR X F r) (k : ∀ g B0 ρ S H d d' v v' Q, Rel (ctx X) g B0 ρ S H → RR (ctx X) g (Bad g B0 ρ S) H d v → RR (ctx X) g (Bad g B0 ρ S) H d' v' → c d d' →
  (∀ H' z, Rel (ctx X) g B0 ρ S H' → Ext g B0 ρ S H g ρ S H' → RV (ctx X) g (Bad g B0 ρ S) H' (f d d') z → Q z H') → r [v, v'] H Q) : CallD X F (c2 c) (f2 f) := ⟨r, h, fun g B0 ρ S H ds vs Q R rs hc q => by
  match ds, hc, rs, q with
  | [d, d'], hc, rs, q =>
    obtain ⟨v, v', rfl, rv, rv'⟩ := rs.two
    exact k g B0 ρ S H d d' v v' Q R rv rv' hc q⟩
def lenD (d : D) : D := .int (seqD d).length
theorem b_len : CallD X (.builtin "len") (c1 fun d => isSeq d = true) (f1 lenD) := callD1 call_len_seq fun g B0 ρ S H d v Q R rv hc k => by
  obtain ⟨p, vs, rfl, sq, rs⟩ := rv.seq hc
  refine ⟨p, vs, rfl, sq, ?_⟩
  have := k H _ R Ext.refl (.int _)
  rwa [rs.length] at this
def cInt : D → Prop
  | .int _ => True
  | _ => False
theorem cInt_inv : ∀ {d : D}, cInt d → ∃ i, d = .int i
  | .int i, _ => ⟨i, rfl⟩
def uI (g : Int → Int) : D → D
  | .int i => .int (g i)
  | _ => .non
theorem b_abs : CallD X (.builtin "abs") (c1 cInt) (f1 (uI fun i => if i < 0 then -i else i)) := callD1 call_abs fun g B0 ρ S H d v Q R rv hc k => by
  obtain ⟨i, rfl⟩ := cInt_inv hc
  exact ⟨i, by rw [rv.int], k H _ R Ext.refl (.int _)⟩
theorem b_int : CallD X (.type "int") (c1 cInt) (f1 (uI fun i => i)) := callD1 call_int1 fun g B0 ρ S H d v Q R rv hc k => by
  obtain ⟨i, rfl⟩ := cInt_inv hc
  exact .inl ⟨i, by rw [rv.int], k H _ R Ext.refl (.int _)⟩
theorem b_min2 (hc : X.calm = true) : CallD X (.builtin "min") (c2 cII) (f2 (iD fun i j => if j < i then j else i)) := callD2 (call_min2 hc) fun g B0 ρ S H d d' v v' Q R rv rv' hc k => by
  obtain ⟨i, j, rfl, rfl, _⟩ := cI_inv hc
  exact ⟨i, j, by rw [rv.int, rv'.int], k H _ R Ext.refl (.int _)⟩
theorem b_max2 (hc : X.calm = true) : CallD X (.builtin "max") (c2 cII) (f2 (iD fun i j => if j > i then j else i)) := callD2 (call_max2 hc) fun g B0 ρ S H d d' v v' Q R rv rv' hc k => by
  obtain ⟨i, j, rfl, rfl, _⟩ := cI_inv hc
  exact ⟨i, j, by rw [rv.int, rv'.int], k H _ R Ext.refl (.int _)⟩
theorem b_list : CallD X (.type "list") (c1 fun d => isSeq d = true) (f1 fun d => .lst (seqD d)) := callD1 call_list_of fun g B0 ρ S H d v Q R rv hc k => by
  obtain ⟨p, vs, rfl, sq, rs⟩ := rv.seq hc
  refine ⟨p, vs, rfl, sq, fun l hl => ?_⟩
  obtain ⟨R2, e2, nb⟩ := R.new (o := .lst vs) hl
  exact k _ _ R2 e2 (.lst (.inl ⟨upd_same, nb⟩) (rs.mono e2.up))
theorem b_tuple : CallD X (.type "tuple") (c1 fun d => isSeq d = true) (f1 fun d => .tup (seqD d)) := callD1 call_tuple_of fun g B0 ρ S H d v Q R rv hc k => by
  cases d with
  | lst xs =>
    obtain ⟨p, vs, rfl, sq, rs⟩ := rv.sqL
    refine ⟨p, vs, rfl, .inl ⟨sq, fun l hl => ?_⟩⟩
    obtain ⟨R2, e2, nb⟩ := R.new (o := .tup vs) hl
    exact k _ _ R2 e2 (.tup upd_same (rs.mono e2.up))
  | tup xs =>
    have rx := rv.toRV fun _ => by simp
    obtain ⟨p, vs, rfl, sq, rs⟩ := rv.sqT
    exact ⟨p, vs, rfl, .inr ⟨sq, k _ _ R Ext.refl rx⟩⟩
  | _ => simp [isSeq] at hc
/-- the bools of a list, its ints -/
def blsD : List D → Option (List Bool)
  | [] => some []
  | .bl b :: r => (blsD r).map (b :: ·)
  | _ :: _ => none
def intsD : List D → Option (List Int)
  | [] => some []
  | .int b :: r => (intsD r).map (b :: ·)
  | _ :: _ => none
theorem RVs.blsD {C : Cxt} {g : Gh} {B : Addr → Prop} {H : Hp} : ∀ {ds : List D} {vs : List V} {bs : List Bool}, RVs C g B H ds vs → RW.blsD ds = some bs → vs = bs.map V.bl
  | _, _, _, .nil, e => by cases e; rfl
  | _, _, _, .cons h r, e => by
    cases h with
    | bl b =>
      unfold RW.blsD at e
      rename_i ds vs
      cases q : RW.blsD ds with
      | none => rw [q] at e; cases e
      | some bs => rw [q] at e; cases e; rw [RVs.blsD r q]; rfl
    | _ => simp [RW.blsD] at e
theorem RVs.intsD {C : Cxt} {g : Gh} {B : Addr → Prop} {H : Hp} : ∀ {ds : List D} {vs : List V} {bs : List Int}, RVs C g B H ds vs → RW.intsD ds = some bs → vs = bs.map V.int
  | _, _, _, .nil, e => by cases e; rfl
  | _, _, _, .cons h r, e => by
    cases h with
    | int b =>
      unfold RW.intsD at e
      rename_i ds vs
      cases q : RW.intsD ds with
      | none => rw [q] at e; cases e
      | some bs => rw [q] at e; cases e; rw [RVs.intsD r q]; rfl
    | _ => simp [RW.intsD] at e
theorem b_all (hc : X.calm = true) : CallD X (.builtin "all") (c1 fun d => ∃ xs bs, d = .lst xs ∧ blsD xs = some bs) (f1 fun d => .bl (((blsD (seqD d)).getD []).all _root_.id)) := callD1 (cr_all hc) fun g B0 ρ S H d v Q R rv ⟨xs, bs, ed, hb⟩ k => by
  subst ed
  obtain ⟨p, vs, rfl, sq, rs⟩ := rv.sqL
  have e := rs.blsD hb
  subst e
  refine ⟨p, bs, rfl, sq, ?_⟩
  have := k H _ R Ext.refl (.bl _)
  rwa [show (blsD (seqD (.lst xs))).getD [] = bs by show (blsD xs).getD [] = bs; rw [hb]; rfl] at this
theorem b_any (hc : X.calm = true) : CallD X (.builtin "any") (c1 fun d => ∃ xs bs, d = .lst xs ∧ blsD xs = some bs) (f1 fun d => .bl (((blsD (seqD d)).getD []).any _root_.id)) := callD1 (cr_any hc) fun g B0 ρ S H d v Q R rv ⟨xs, bs, ed, hb⟩ k => by
  subst ed
  obtain ⟨p, vs, rfl, sq, rs⟩ := rv.sqL
  have e := rs.blsD hb
  subst e
  refine ⟨p, bs, rfl, sq, ?_⟩
  have := k H _ R Ext.refl (.bl _)
  rwa [show (blsD (seqD (.lst xs))).getD [] = bs by show (blsD xs).getD [] = bs; rw [hb]; rfl] at this
theorem b_sum (hc : X.calm = true) : CallD X (.builtin "sum") (c1 fun d => ∃ xs bs, d = .lst xs ∧ intsD xs = some bs) (f1 fun d => .int (((intsD (seqD d)).getD []).sum)) := callD1 (cr_sum hc) fun g B0 ρ S H d v Q R rv ⟨xs, bs, ed, hb⟩ k => by
  subst ed
  obtain ⟨p, vs, rfl, sq, rs⟩ := rv.sqL
  have e := rs.intsD hb
  subst e
  refine ⟨p, bs, rfl, sq, ?_⟩
  have := k H _ R Ext.refl (.int _)
  rwa [show (intsD (seqD (.lst xs))).getD [] = bs by show (intsD xs).getD [] = bs; rw [hb]; rfl] at this

/-! repr -/
def shownD (d : D) : Str := match toPy d with
  | some p => p.shown
  | none => ⟨#[]⟩
def cRepr (d : D) : Prop := isSeq d = true ∧ ∃ p, toPy d = some p ∧ p.showable = true ∧ p.hasDict = false ∧ p.depth ≤ 64 ∧ p.shown.length ≤ line
theorem cr_repr (hgd : X.A.guards = some []) (hu : X.A.units + 65 < cLine) : CallR X (.builtin "repr") (fun xs H Q => ∃ a p, xs = [.ref a] ∧ Dp X.K H (.ref a) p ∧ p.showable = true ∧ p.hasDict = false ∧ p.depth ≤ 64 ∧ p.shown.length ≤ line ∧ Q (.str p.shown) H) := by
  intro pins s σ H xs us Q I r h
  obtain ⟨a, p, rfl, hd, hs, hn, hdp, hl, q⟩ := h
  obtain ⟨u, rfl, ru⟩ := vals1 r
  cases ru
  obtain ⟨as, rr⟩ := Dp.reads I p _ _ hd rfl
  exact repr_of_reads' rr hs (fun e => by rw [hn] at e; cases e) hgd (by omega) (fun _ _ e => e) (fun h' u tk hk => ⟨.str p.shown, H, I.kept hk, ⟨_, rfl⟩, q⟩) (line_le hl)
theorem b_repr (hgd : X.A.guards = some []) (hu : X.A.units + 65 < cLine) : CallD X (.builtin "repr") (c1 cRepr) (f1 fun d => .str (shownD d)) := callD1 (cr_repr hgd hu) fun g B0 ρ S H d v Q R rv ⟨hq, p, hp, h1, h2, h3, h4⟩ k => by
  obtain ⟨a, vs, e, _, _⟩ := rv.seq hq
  refine ⟨a, p, by rw [e], by rw [← e]; exact rv.dp hp, h1, h2, h3, h4, ?_⟩
  have := k H _ R Ext.refl (.str _)
  unfold shownD at this
  rwa [hp] at this

/-! len(set(x)) of ints -/
def dCount : List Int → Nat
  | [] => 0
  | x :: xs => (if x ∈ xs then 0 else 1) + dCount xs
theorem dCount_of : ∀ (ns out : List Int), out.Nodup → (∀ k, k ∈ out ↔ k ∈ ns) → out.length = dCount ns
  | [], out, _, h => by
    cases out with
    | nil => rfl
    | cons a r => exact absurd ((h a).mp List.mem_cons_self) (by simp)
  | x :: xs, out, nd, h => by
    unfold dCount
    by_cases hx : x ∈ xs
    · rw [if_pos hx, Nat.zero_add]
      exact dCount_of xs out nd fun k => by
        rw [h k, List.mem_cons]
        constructor
        · rintro (z | z)
          · rw [z]; exact hx
          · exact z
        · exact .inr
    · rw [if_neg hx]
      have hxo : x ∈ out := (h x).mpr List.mem_cons_self
      have hl := List.length_erase_of_mem hxo
      have hp := List.length_pos_of_mem hxo
      have := dCount_of xs (out.erase x) (nd.erase x) fun k => by
        rw [nd.mem_erase_iff, h k, List.mem_cons]
        constructor
        · rintro ⟨n, z | z⟩
          · exact absurd z n
          · exact z
        · intro z
          exact ⟨fun e => hx (e ▸ z), .inr z⟩
      omega
theorem dCount_le : ∀ ns : List Int, dCount ns ≤ ns.length
  | [] => Nat.le_refl _
  | x :: xs => by
    have := dCount_le xs
    unfold dCount
    rw [List.length_cons]
    split <;> omega
def setLen (K : PySem.W.Frag) (ta : TE) : TE := fun σ H Q => ta σ H fun x H1 => ∃ (l : Addr) (ns : List Int), x = .ref l ∧ (SqL K H1 l (ns.map V.int) ∨ SqT K H1 l (ns.map V.int)) ∧ ns.length ≤ 4000 ∧ ∀ out : List Int, out.Nodup → (∀ k, k ∈ out ↔ k ∈ ns) → Q (.int (out.length : Nat)) H1
theorem firstMet_spec (ns : List Int) : ∀ n, n ≤ ns.length → (PyProof.Rows.firstMet (fun i => ns.getD i 0) n).Nodup ∧ ∀ k, k ∈ PyProof.Rows.firstMet (fun i => ns.getD i 0) n ↔ k ∈ ns.take n := by
  intro n
  induction n with
  | zero => intro _; exact ⟨by unfold PyProof.Rows.firstMet; simp, fun k => by unfold PyProof.Rows.firstMet; simp⟩
  | succ n ih =>
    intro h
    obtain ⟨h1, h2⟩ := ih (by omega)
    have e : ns.take (n + 1) = ns.take n ++ [ns.getD n 0] := by
      rw [List.take_succ, List.getD_eq_getElem?_getD, List.getElem?_eq_getElem (by omega)]
      rfl
    rw [PyProof.Rows.firstMet_succ, e]
    by_cases hb : (PyProof.Rows.firstMet (fun i => ns.getD i 0) n).any (· == ns.getD n 0) = true
    · obtain ⟨y, hy, ey⟩ := List.any_eq_true.mp hb
      have ey : y = ns.getD n 0 := eq_of_beq ey
      rw [show step_dedup (PyProof.Rows.firstMet (fun i => ns.getD i 0) n) (ns.getD n 0) = PyProof.Rows.firstMet (fun i => ns.getD i 0) n from if_pos hb]
      refine ⟨h1, fun k => ?_⟩
      rw [h2, List.mem_append, List.mem_singleton]
      constructor
      · exact .inl
      · rintro (z | z)
        · exact z
        · rw [z, ← ey]; exact (h2 y).mp hy
    · rw [show step_dedup (PyProof.Rows.firstMet (fun i => ns.getD i 0) n) (ns.getD n 0) = PyProof.Rows.firstMet (fun i => ns.getD i 0) n ++ [ns.getD n 0] from if_neg hb]
      refine ⟨List.nodup_append.mpr ⟨h1, by simp, fun a ha b hb' eab => hb (List.any_eq_true.mpr ⟨a, ha, by rw [List.mem_singleton] at hb'; rw [eab, hb']; exact beq_self_eq_true _⟩)⟩, fun k => ?_⟩
      rw [List.mem_append, h2, List.mem_append]
theorem pe_setLen {a : Expr} {ta : TE} {p p2 q pos : Pos} (hc : X.calm = true) (hg : Gl X "len") (hm : X.mg "len" = none) (hg2 : Gl X "set") (hm2 : X.mg "set" = none) (ha : PE X a ta)
    (na : starEach [a] X.env = (false, eval a X.env) :: starEach [] X.env := by rfl) : PE X (.Call (.Name "len" p) [.Call (.Name "set" p2) [a] [] q] [] pos) (setLen X.K ta) := by
  refine ⟨fun pins s σ H Q I h => ?_⟩
  refine Call_ (ld_blt I hg hm boot_len ?_)
  refine PyProof.Rows.callWith_builtin1 (PyProof.Rows.args_cons ?_ rfl) rfl rfl
  refine Call_ (ld_blt I hg2 hm2 boot_set ?_)
  refine PyProof.Rows.callWith_type1 (PyProof.Rows.args_cons (thn (ha.run pins s σ H _ I h) fun v s1 ⟨x, H1, I1, r1, q1⟩ => PyProof.Rows.args_nil ?_) na) na rfl
  obtain ⟨l, ns, rfl, hq, hl, q1⟩ := q1
  cases r1
  rcases hq with hq | hq
  · obtain ⟨its, r, pl, hz⟩ := I1.list hq
    have hlen : its.toArray.size = ns.length := by rw [List.size_toArray, ← r.length, List.length_map]
    refine call_set_list (I1.ok.hd hc) pl.isList (by simpa using intsAre_of r) (by rw [hlen]; unfold scanBound; omega) fun h' tk hS hk => ?_
    refine PyProof.Rows.args_nil ?_
    rw [hlen] at hS
    obtain ⟨o, es, ep, t, ho, hex, hd, _, _, _, hf, hn⟩ := hS
    obtain ⟨n1, n2⟩ := firstMet_spec ns ns.length (Nat.le_refl _)
    rw [List.take_length] at n2
    have hle : (PyProof.Rows.firstMet (fun i => ns.getD i 0) ns.length).length ≤ ns.length := (by rw [dCount_of ns _ n1 n2]; exact dCount_le ns)
    have I2 : Inv X pins σ H1 { s1 with heap := h', toks := tk } := I1.kept fun b o e => hk b o (Heap.lt_size e) e
    exact call_len_set ho hex hd hf (by rw [hn] <;> omega) ⟨.int _, H1, I2.tok _, ⟨_, by rw [hn]⟩, q1 _ n1 n2⟩
  · obtain ⟨its, r, pl, hz⟩ := I1.tuple hq
    refine call_set_tupI ns (I1.ok.hd hc) (show s1.heap.IsTuple l its.toArray from pl) (by simpa using intsAre_of r) (by unfold scanBound; omega) fun h' tk c hS hcn hk => ?_
    refine PyProof.Rows.args_nil ?_
    obtain ⟨o, es, ep, t, ho, hex, hd, _, nd, hmem, _, hf, hn, _, _⟩ := hS
    have I2 : Inv X pins σ H1 { s1 with heap := h', toks := tk } := I1.kept hk
    have ek : (es.toList.map keyOf).length = es.size := by simp
    exact call_len_set ho hex hd hf (by rw [hn] <;> omega) ⟨.int _, H1, I2.tok _, ⟨_, by rw [ek]⟩, q1 _ nd fun k => by rw [← hmem k, decide_eq_true_eq]⟩
def mSetLen (m : MX) : MX := fun env S Q E => m env S (fun w S1 => ∃ x ns, rd S1 w = some x ∧ isSeq x = true ∧ intsD (seqD x) = some ns ∧ ns.length ≤ 4000 ∧ Q (.d (.int (dCount ns : Nat))) S1) E
theorem me_setLen {a : Expr} {ma : MX} {p p2 q pos : Pos} (hc : X.calm = true) (hm : X.mg "len" = none) (hm2 : X.mg "set" = none) (ha : ME E X a ma) (hg : Gl X "len" := by rfl) (hg2 : Gl X "set" := by rfl)
    (na : starEach [a] X.env = (false, eval a X.env) :: starEach [] X.env := by rfl) : ME E X (.Call (.Name "len" p) [.Call (.Name "set" p2) [a] [] q] [] pos) (mSetLen ma) := by
  refine ⟨PE.imp (pe_setLen hc hg hm hg2 hm2 ha.pe na) fun σ H Q ⟨g, B0, ρ, env, S, R, N, q⟩ => ?_, fun env S Q Q' E E' h hx q => ha.mono _ _ _ _ _ _ (fun w S' ⟨x, ns, a, b, c, d, z⟩ => ⟨x, ns, a, b, c, d, h _ _ z⟩) hx q⟩
  refine tM.go ha.mono R N q (fun _ z => z) fun w S1 ⟨x, ns, ex, hq, hi, hl, q1⟩ g1 ρ1 H1 v1 R1 e1 r1 => ?_
  obtain ⟨p, vs, ep, sq, rs⟩ := (R1.rd r1 ex).seq hq
  have e := rs.intsD hi
  subst e
  exact ⟨p, ns, ep, sq, hl, fun out nd hm => q1 _ _ _ _ R1 e1 (by rw [dCount_of ns out nd hm]; exact RV.int _)⟩
end
end RW
/-! RwMeth: methods of the store's lists, isinstance, list(..) that the store holds. -/
namespace RW
open PySem PySem.Spec PyProof.Rows L2
variable [Tbl]
section
variable {C : Cxt} {g : Gh} {B0 : Addr → Prop} {ρ : List Addr} {S : Sto} {H : Hp}
theorem Rel.writeL (R : Rel C g B0 ρ S H) {i : Nat} {a : Addr} {ws0 ws : List W} {vs : List V} (hi : S[i]? = some (.lst ws0)) (ha : ρ[i]? = some a) (p : Paired (RW C g (Bad g B0 ρ S) ρ H) ws vs) :
    Rel C g B0 ρ (S.set i (.lst ws)) (upd H a (.lst vs)) ∧ Ext g B0 ρ S H g ρ (S.set i (.lst ws)) (upd H a (.lst vs)) := by
  obtain ⟨vs0, h0, _⟩ := R.obj i _ a hi ha
  have bad : Bad g B0 ρ S a := .inr (.inr ⟨i, _, hi, rfl, ha⟩)
  have u : Up g (Bad g B0 ρ S) H g (Bad g B0 ρ S) (upd H a (.lst vs)) := ⟨fun b o e im => by
    rw [upd_ne (show b ≠ a from fun z => by rw [z, h0] at e; cases e; exact im)]; exact e, fun b o e n => ⟨by rw [upd_ne (show b ≠ a from fun z => n (by rw [z]; exact bad))]; exact e, n⟩, .refl⟩
  exact R.write hi rfl ha rfl h0 (fun z => z) ⟨vs, upd_same, Paired.mapP p fun _ _ q => q.mono u ⟨[], by simp⟩⟩
end
/-- the store's list at i -/
def lstAt (S : Sto) (i : Nat) (ws : List W) : Prop := S[i]? = some (.lst ws)
def mAppend (mo : MX) (t : MA) : MX := fun env S Q E => mo env S (fun w S1 => ∃ i us0, w = .ref i ∧ S1[i]? = some (.lst us0) ∧ t env S1 (fun ws S2 => ∃ u us, ws = [u] ∧ S2[i]? = some (.lst us) ∧ us.length < line ∧ Q (.d .non) (S2.set i (.lst (us ++ [u])))) E) E
def mPop (mo : MX) (t : MA) : MX := fun env S Q E => mo env S (fun w S1 => ∃ i us0, w = .ref i ∧ S1[i]? = some (.lst us0) ∧ t env S1 (fun ws S2 => ∃ j us k u, ws = [.d (.int j)] ∧ S2[i]? = some (.lst us) ∧ (-(2 ^ 63) ≤ j ∧ j < 2 ^ 63) ∧ seqIndex? j us.length = some k ∧ us[k]? = some u ∧ Q u (S2.set i (.lst (us.eraseIdx k)))) E) E
section
variable {E : XK} {X : Cx} {o e : Expr} {es : List Expr} {mo m : MX} {t : MA} {apos cpos : Pos}
theorem Paired.snoc {α β : Type} {F : α → β → Prop} : ∀ {xs : List α} {ys : List β} {x : α} {y : β}, Paired F xs ys → F x y → Paired F (xs ++ [x]) (ys ++ [y])
  | _, _, _, _, .nil, h => .cons h .nil
  | _, _, _, _, .cons a t, h => .cons a (Paired.snoc t h)
theorem Paired.eraseIdx {α β : Type} {F : α → β → Prop} : ∀ {xs : List α} {ys : List β} (i : Nat), Paired F xs ys → Paired F (xs.eraseIdx i) (ys.eraseIdx i)
  | _, _, _, .nil => .nil
  | _, _, 0, .cons _ t => t
  | _, _, i + 1, .cons a t => .cons a (Paired.eraseIdx i t)
theorem Paired.get {α β : Type} {F : α → β → Prop} : ∀ {xs : List α} {ys : List β} {i : Nat} {x : α}, Paired F xs ys → xs[i]? = some x → ∃ y, ys[i]? = some y ∧ F x y
  | _, _, _, _, .nil, e => by simp at e
  | _, _, 0, _, .cons h _, e => by
    simp at e
    subst e
    exact ⟨_, rfl, h⟩
  | _, _, i + 1, _, .cons _ r, e => by
    obtain ⟨y, h1, h2⟩ := Paired.get (i := i) r (by simpa using e)
    exact ⟨y, by simpa using h1, h2⟩
theorem me_append (ho : ME E X o mo) (ha : MAJ E X [e] t)
    (hbase : attributeBase o "append" X.env (eval o X.env) = eval o X.env := by rfl)
    (hfew : ((backTo cpos (starEach [e] X.env)).all (fun x => !x.1) && (backToKw cpos (keywordEach [] X.env)).all (fun x => x.1.isSome)
      && decide ([e].length + ([] : List Keyword).length + (if ([] : List Keyword).isEmpty then 0 else 1) < 30)) = true := by rfl)
    (hline : (apos.endLine == cpos.line) = true := by rfl) (hs : starEach [e] X.env = (false, eval e X.env) :: starEach [] X.env := by rfl) (hplain : (backTo cpos (starEach [] X.env)).any (·.1) = false := by rfl) :
    ME E X (.Call (.Attribute o "append" apos) [e] [] cpos) (mAppend mo t) := by
  refine ⟨PE.imp (pe_bm PySem.F.plainAttrs_list PySem.F.slot_list_append PySem.F.type_list_append mt_append ho.pe ha.pa hbase hfew hline hs hplain) fun σ H Q ⟨g, B0, ρ, env, S, R, N, q⟩ => ?_,
    fun env S Q Q' E E' h hx q => ho.mono _ _ _ _ _ _ (fun w S1 ⟨i, us0, a, b, c⟩ => ⟨i, us0, a, b, ha.mono _ _ _ _ _ _ (fun ws S2 ⟨u, us, a, b, c, d⟩ => ⟨u, us, a, b, c, h _ _ d⟩) hx c⟩) hx q⟩
  refine tM.go ho.mono R N q (fun _ z => z) fun w S1 ⟨i, us0, ew, hs1, q1⟩ g1 ρ1 H1 v1 R1 e1 r1 => ?_
  subst ew
  obtain ⟨a, hia, ev⟩ := r1
  subst ev
  obtain ⟨vs1, hv1, _⟩ := R1.obj i _ a hs1 hia
  refine ⟨.inl ⟨rfl, vs1, .inl (.inl hv1)⟩, ?_⟩
  refine tMA.go ha.mono R1 (N.ext e1) q1 (fun x z => z.ext e1) fun ws S2 ⟨u, us, ew, hs2, hl, q2⟩ g2 ρ2 H2 vs R2 e2 r2 => ?_
  subst ew
  cases r2 with
  | cons ru rn =>
    cases rn
    have hia2 : ρ2[i]? = some a := by
      obtain ⟨t, e⟩ := e2.pre
      rw [e, List.getElem?_append_left (List.getElem?_eq_some_iff.mp hia).1]
      exact hia
    obtain ⟨vs2, hv2, p2⟩ := R2.obj i _ a hs2 hia2
    obtain ⟨R3, e3⟩ := R2.writeL hs2 hia2 (Paired.snoc p2 ru)
    exact ⟨a, vs2, _, rfl, rfl, hv2, by rw [← Paired.len p2]; exact line_lt hl, q2 _ _ _ _ R3 ((e1.trans e2).trans e3) RV.non⟩
theorem me_pop (ho : ME E X o mo) (ha : MAJ E X [e] t)
    (hbase : attributeBase o "pop" X.env (eval o X.env) = eval o X.env := by rfl)
    (hfew : ((backTo cpos (starEach [e] X.env)).all (fun x => !x.1) && (backToKw cpos (keywordEach [] X.env)).all (fun x => x.1.isSome)
      && decide ([e].length + ([] : List Keyword).length + (if ([] : List Keyword).isEmpty then 0 else 1) < 30)) = true := by rfl)
    (hline : (apos.endLine == cpos.line) = true := by rfl) (hs : starEach [e] X.env = (false, eval e X.env) :: starEach [] X.env := by rfl) (hplain : (backTo cpos (starEach [] X.env)).any (·.1) = false := by rfl) :
    ME E X (.Call (.Attribute o "pop" apos) [e] [] cpos) (mPop mo t) := by
  refine ⟨PE.imp (pe_bm PySem.F.plainAttrs_list PySem.F.slot_list_pop PySem.F.type_list_pop mt_popAt ho.pe ha.pa hbase hfew hline hs hplain) fun σ H Q ⟨g, B0, ρ, env, S, R, N, q⟩ => ?_,
    fun env S Q Q' E E' h hx q => ho.mono _ _ _ _ _ _ (fun w S1 ⟨i, us0, a, b, c⟩ => ⟨i, us0, a, b, ha.mono _ _ _ _ _ _ (fun ws S2 ⟨j, us, k, u, a, b, c, d, e, f⟩ => ⟨j, us, k, u, a, b, c, d, e, h _ _ f⟩) hx c⟩) hx q⟩
  refine tM.go ho.mono R N q (fun _ z => z) fun w S1 ⟨i, us0, ew, hs1, q1⟩ g1 ρ1 H1 v1 R1 e1 r1 => ?_
  subst ew
  obtain ⟨a, hia, ev⟩ := r1
  subst ev
  obtain ⟨vs1, hv1, _⟩ := R1.obj i _ a hs1 hia
  refine ⟨.inl ⟨rfl, vs1, .inl (.inl hv1)⟩, ?_⟩
  refine tMA.go ha.mono R1 (N.ext e1) q1 (fun x z => z.ext e1) fun ws S2 ⟨j, us, k, u, ew, hs2, hj, hk, hu, q2⟩ g2 ρ2 H2 vs R2 e2 r2 => ?_
  subst ew
  cases r2 with
  | cons ru rn =>
    cases rn
    cases (show RV _ _ _ _ (.int j) _ from ru)
    have hia2 : ρ2[i]? = some a := by
      obtain ⟨t, e⟩ := e2.pre
      rw [e, List.getElem?_append_left (List.getElem?_eq_some_iff.mp hia).1]
      exact hia
    obtain ⟨vs2, hv2, p2⟩ := R2.obj i _ a hs2 hia2
    obtain ⟨v, hv, rv⟩ := Paired.get p2 hu
    obtain ⟨R3, e3⟩ := R2.writeL hs2 hia2 (Paired.eraseIdx k p2)
    exact ⟨a, vs2, j, k, v, rfl, rfl, hv2, hj.1, hj.2, by rw [← Paired.len p2]; exact hk, hv, q2 _ _ _ _ R3 ((e1.trans e2).trans e3) (rv.ext e3)⟩
end

/-! ### isinstance(x, T), T a built-in type -/
def tyNm : D → Option String
  | .non => some "NoneType"
  | .bl _ => some "bool"
  | .int _ => some "int"
  | .str _ => some "str"
  | .tup _ => some "tuple"
  | .lst _ => some "list"
  | .dic _ => some "dict"
  | .drw => some "dict"
  | _ => none
/-- a value's type; a locked dict of tuple keys too -/
inductive TyZ (K : PySem.W.Frag) (H : Hp) : V → Value → Prop
  | x {v : V} {t : Value} : TyX K H v t → TyZ K H v t
  | fT {a : Addr} {o : Obj} {kvs : List (List Key × V)} : H a = some (.frz o (.dT kvs)) → TyZ K H (.ref a) (.type "dict")
theorem kit_ofZ {X : Cx} {pins : List (Addr × Obj)} {σ : L2.St} {H : Hp} {s : Shared} {x : V} {u t : Value} (I : Inv X pins σ H s) (rx : RelV x u) (ty : TyZ X.K H x t) : ∃ P : Heap → Prop, PySem.W.KitX X.K u t P ∧ P s.heap ∧ u ≠ .builtin "__main__.__loader__#opaque" := by
  cases ty with
  | x h => exact kit_of I rx h
  | @fT a o kvs e =>
    cases rx
    obtain ⟨_, _, _, xs, _, o', es, ep, h1, h2, _⟩ := (show ObjOk X.prog X.w H s.heap a (.frz o (.dT kvs)) from I.hok a _ e)
    exact ⟨_, PySem.W.kitx_dict, ⟨o', h1, h2.1⟩, fun z => nomatch z⟩
theorem call_isZ {X : Cx} : CallR X (.builtin "isinstance") (fun xs H Q => ∃ (x c : V) (t u : Value) (b : Bool), xs = [x, c] ∧ ClsV c u ∧ TyZ X.K H x t ∧ PySem.W.kitOne X.K t u = some b ∧ Q (.bl b) H) := by
  intro pins s σ H xs us Q I r h
  obtain ⟨x, c, t, w, b, rfl, k, ty, e, q⟩ := h
  obtain ⟨v1, v2, rfl, r1, r2⟩ := vals2 r
  cases k.eq r2
  obtain ⟨P, Z, p, hx⟩ := kit_ofZ I r1 ty
  exact PySem.W.kia_one Z I.kIn p e hx fun tk => ⟨.bl b, H, I.tok tk, rfl, q⟩
theorem call_isZT {X : Cx} : CallR X (.builtin "isinstance") (fun xs H Q => ∃ (x : V) (tp : Addr) (cs : List V) (t : Value) (us : List Value) (b : Bool), xs = [x, .ref tp] ∧ H tp = some (.tup cs) ∧ Paired ClsV cs us ∧ TyZ X.K H x t ∧ PySem.W.kitAny X.K t us = some b ∧ Q (.bl b) H) := by
  intro pins s σ H xs us Q I r h
  obtain ⟨x, tp, cs, t, ws, b, rfl, hT, k, ty, e, q⟩ := h
  obtain ⟨v1, v2, rfl, r1, r2⟩ := vals2 r
  cases (show v2 = Value.ref tp from r2)
  obtain ⟨P, Z, p, hx⟩ := kit_ofZ I r1 ty
  obtain ⟨_, its, rv, ⟨oc, od, dt, sl⟩, h1, h2, n, h3⟩ := (show ObjOk X.prog X.w H s.heap tp (.tup cs) from I.hok tp _ hT)
  cases ClsV.all k rv
  simp only at h2 h3
  subst h2 h3
  exact PySem.W.kia_tup Z I.kIn p h1 e hx fun tk => ⟨.bl b, H, I.tok tk, rfl, q⟩
theorem RV.tyx {C : Cxt} {g : Gh} {B : Addr → Prop} {H : Hp} {d : D} {v : V} {T : String} (h : RV C g B H d v) (e : tyNm d = some T) (hd : DrIs C g H) : TyZ C.K H v (.type T) := by
  cases h with
  | non => cases e; exact .x <| .base .non
  | bl b => cases e; exact .x <| .base (.bl _)
  | int b => cases e; exact .x <| .base (.int _)
  | str b => cases e; exact .x <| .base (.str _)
  | tup h r =>
    cases e
    exact .x <| .base (.tup h)
  | lst h r =>
    cases e
    rcases h with ⟨h, _⟩ | ⟨o, h⟩ | ⟨o, its, n, h1, h2, _⟩
    · exact .x <| .base (.lst h)
    · exact .x <| .base (.frz h)
    · exact .x <| .kList h1 h2
  | dicK h _ => cases e; exact .x <| .fDict h
  | dicT h _ => cases e; exact .fT h
  | drw eg =>
    cases e
    have hd0 := hd.1
    rw [eg] at hd0
    obtain ⟨_, _, _, L, N, r, t, h1, _⟩ := hd0
    exact .x <| .base (.dK h1)
  | _ => simp [tyNm] at e
theorem RR.tyx {C : Cxt} {g : Gh} {B : Addr → Prop} {H : Hp} {d : D} {v : V} {T : String} (h : RR C g B H d v) (e : tyNm d = some T) (hd : DrIs C g H) : TyZ C.K H v (.type T) := by
  cases h with
  | rv h => exact h.tyx e hd
  | ls h r => cases e; exact .x <| .base (.lst h)
/-- the value of isinstance(x, T) by the type's name: T int, bool, str, list, tuple, dict -/
def isiS (T U : String) : Bool := U == T || (U == "bool" && T == "int")
def isiB (T : String) (d : D) : Bool := match tyNm d with
  | some U => isiS T U
  | none => false
def plainT (T : String) : Bool := T == "int" || T == "bool" || T == "str" || T == "list" || T == "tuple" || T == "dict"
theorem kitB_isi {T S : String} {d : D} (hT : plainT T = true) (h : tyNm d = some S) : kitB S T = some (isiB T d) := by
  unfold plainT at hT
  simp only [Bool.or_eq_true, beq_iff_eq] at hT
  have hs : S = "NoneType" ∨ S = "bool" ∨ S = "int" ∨ S = "str" ∨ S = "tuple" ∨ S = "list" ∨ S = "dict" := by
    cases d <;> first | (simp [tyNm] at h; done) | (cases h; simp)
  unfold isiB
  rw [h]
  clear h
  rcases hT with ((((rfl | rfl) | rfl) | rfl) | rfl) | rfl <;> (rcases hs with rfl | rfl | rfl | rfl | rfl | rfl | rfl <;> decide +kernel)
theorem me_ty {T : String} {pos : Pos} (hm : X.mg (Str.ofString T) = none) (hv : bootBuiltins (Str.ofString T) = some (.type T)) (hg : Gl X (Str.ofString T) := by rfl) (hn : (Str.ofString T) ≠ "__name__" := by decide) (hdb : ((Str.ofString T) == ("__debug__" : Str)) = false := by decide) :
    PE X (.Name (Str.ofString T) pos) (tC (.ty T)) := by
  refine ⟨fun pins s σ H Q I h => ?_⟩
  exact ld_blt I hg hm hv ⟨.ty T, H, I, rfl, h⟩ hn hdb
def mIsi (T : String) (m : MX) : MX := fun env S Q E => m env S (fun w S1 => ∃ d, rd S1 w = some d ∧ (tyNm d).isSome = true ∧ Q (.d (.bl (isiB T d))) S1) E
theorem me_isi {E : XK} {X : Cx} {T : String} {a : Expr} {ma : MX} {p p2 pos : Pos} (hT : plainT T = true) (hm : X.mg "isinstance" = none) (hm2 : X.mg (Str.ofString T) = none) (hv : bootBuiltins (Str.ofString T) = some (.type T)) (ha : ME E X a ma)
    (hg : Gl X "isinstance" := by rfl) (hg2 : Gl X (Str.ofString T) := by rfl) (hn : (Str.ofString T) ≠ "__name__" := by decide) (hdb : ((Str.ofString T) == ("__debug__" : Str)) = false := by decide)
    (he : starEach [a, .Name (Str.ofString T) p2] X.env = (false, eval a X.env) :: starEach [.Name (Str.ofString T) p2] X.env := by rfl) (he2 : starEach [.Name (Str.ofString T) p2] X.env = (false, eval (.Name (Str.ofString T) p2) X.env) :: starEach [] X.env := by rfl)
    (hpl : (backTo pos (starEach [.Name (Str.ofString T) p2] X.env)).any (·.1) = false := by rfl) : ME E X (.Call (.Name "isinstance" p) [a, .Name (Str.ofString T) p2] [] pos) (mIsi T ma) := by
  refine ⟨PE.imp (pe_callB call_isZ hg hm boot_isinstance (pa_cons ha.pe (pa_cons (me_ty hm2 hv hg2 hn hdb) pa_nil he2) he) (by decide) (by decide) he hpl) fun σ H Q ⟨g, B0, ρ, env, S, R, N, q⟩ => ?_,
    fun env S Q Q' E E' h hx q => ha.mono _ _ _ _ _ _ (fun w S' ⟨x, a, b, z⟩ => ⟨x, a, b, h _ _ z⟩) hx q⟩
  refine tM.go ha.mono R N q (fun _ z => z) fun w S1 ⟨d, hd, hs, q1⟩ g1 ρ1 H1 v1 R1 e1 r1 => ?_
  cases ht : tyNm d with
  | none => rw [ht] at hs; cases hs
  | some U =>
    exact ⟨v1, .ty T, .type U, .type T, isiB T d, rfl, .ty T, (R1.rd r1 hd).tyx ht R1.dr, kit_ty (kitB_isi hT ht), q1 _ _ _ _ R1 e1 (RV.bl _)⟩
end RW
/-! RwErr: own errors whose __init__ says super().__init__('..') and sets one field; raising. -/
namespace RW
open PySem PySem.W PySem.Calls PyProof.Rows PySem.HandSPX
def iniA (fld : Str) (p1 p2 : Pos) : Arguments := { posonlyargs := [], args := [{ arg := "self", annotation := none, pos := p1 }, { arg := fld, annotation := none, pos := p2 }], vararg := none, kwonlyargs := [], kw_defaults := [], kwarg := none, defaults := [] }
def iniB (fld msg : Str) (j : Nat) (a1 a2 a3 a4 a5 a6 q1 q2 q3 q4 : Pos) : List Stmt := [.Expr (.Call (.Attribute (.Call (.Name "super" a1) [] [] a2) "__init__" a3) [.Constant (.str msg) j a4] [] a5) a6, .Assign [.Attribute (.Name "self" q1) fld q2] (.Name fld q3) q4]
def iniS (ns : List (Str × NameKind)) : Scope := { kind := .function, names := ns, isGenerator := false, isCoroutine := false, more := [] }
/-- the text of such an __init__ and what the written part says of the class at C and of its __init__ at fI -/
structure ErrTxt (P : Program) (K : Frag) (mg : Str → Option Value) (nm : Str) (C fI : Addr) (fld msg : Str) : Prop where
  gC : mg nm = some (.ref C)
  cls : ∃ nm q N bs bm sn sub ab col dd k0 k1 k2 k3 k5, K.lookup C = some (excClassObj nm q C N bs bm true sn sub ab col dd k0 k1 k2 k3 k5 "ValueError.__new__") ∧ refsVE bm = true
  sa : findIn K (.ref C) "__setattr__" = some (some (.builtin "object.__setattr__"))
  ga : findIn K (.ref C) "__getattribute__" = some (some (.builtin "BaseException.__getattribute__"))
  gg : findIn K (.ref C) "__getattr__" = some none
  noN : findIn K (.ref C) fld = some none
  iC : findIn K (.ref C) "__init__" = some (some (.ref fI))
  tC : typeIn K (.ref fI) = some (.type "function")
  kC : keepIn K (.ref C) = true
  exC : subIn K (.ref C) (.type "BaseException") = some true
  veC : subIn K (.ref C) (.type "ValueError") = some true
  mrC : mroIn K C (.ref C) = some true
  tyC : typeIn K (.ref C) = some (.type "type")
  hdC : hasDictIn K C = true
  opq : nsIn K cStatics "thirdparty.any" = some none
  sup : ks_superIn K C C "__init__" = some (some (.builtin "ValueError.__init__"))
  q : excInitIn K C [.type "ValueError", .type "Exception", .type "BaseException", .type "object"] "ValueError.__new__" = true
  nsup : mg "super" = none
  top : (P.main.scope.names.lookup ("super" : Str)).isSome = false
  fn : ∃ (oc : Value) (od : Option Addr) (doc pm : Value) (an : Option Addr) (ct qn : Value) (osl : Array (Option Value)) (qual : Str) (ns : List (Str × NameKind)) (cda cc : Addr) (j : Nat) (p1 p2 a1 a2 a3 a4 a5 a6 q1 q2 q3 q4 : Pos),
    K.lookup fI = some ⟨oc, od, .func (ksFn "__init__" qual (iniA fld p1 p2) (iniB fld msg j a1 a2 a3 a4 a5 a6 q1 q2 q3 q4) (iniS ns) .none .none doc pm an (.ref cda) ct cc), osl⟩ ∧ codeIn K (.ref cda) qual = true ∧
    (∃ ccl cdd vs ccs file tf, K.lookup cda = some ⟨ccl, cdd, .fields vs, ccs⟩ ∧ vs[2]? = some (.str file tf) ∧ ((P.main.file : Str) == file) = true) ∧ (∃ cl cld csl, K.lookup cc = some ⟨cl, cld, .cell (some (.ref C)), csl⟩) ∧
    ns.lookup ("super" : Str) = some .globalImplicit ∧ ns.lookup ("__class__" : Str) = some .free ∧ ns.lookup ("self" : Str) = some .local ∧ ns.lookup fld = some .local ∧ (∀ x ∈ ns, x.2 ≠ .cell) ∧
    (∀ (s : Shared) (u v : Value), BindsTo s (ksFn "__init__" qual (iniA fld p1 p2) (iniB fld msg j a1 a2 a3 a4 a5 a6 q1 q2 q3 q4) (iniS ns) .none .none doc pm an (.ref cda) ct cc) ⟨[u, v], []⟩ [("self", u), (fld, v)]) ∧
    (∀ (s : Shared) (u v : Value), BindsTo s (ksFn "__init__" qual (iniA fld p1 p2) (iniB fld msg j a1 a2 a3 a4 a5 a6 q1 q2 q3 q4) (iniS ns) .none .none doc pm an (.ref cda) ct cc) ⟨[u], [(fld, v)]⟩ [("self", u), (fld, v)]) ∧
    (∀ env : PySem.Env, ∃ pl : Sem Bool, eval (.Call (.Attribute (.Call (.Name "super" a1) [] [] a2) "__init__" a3) [.Constant (.str msg) j a4] [] a5) env = (do
      let ov ← attributeBase (.Call (.Name "super" a1) [] [] a2) "__init__" env (eval (.Call (.Name "super" a1) [] [] a2) env)
      standAt a3.atName
      let (f, first) ← holding [ov] (getMethod ov "__init__" pl)
      callWith a5 f first (backTo a5 (starEach [.Constant (.str msg) j a4] env)) []))
  fld1 : (fld == ("__debug__" : Str)) = false
  fld2 : (fld == ("self" : Str)) = false
theorem one_size (v : Value) : [v].length ≤ sizeLine := by
  rw [sizeLine_eq]
  exact (by decide : 1 ≤ 16777216)
/-- what __init__ leaves of a fresh exception at x -/
structure InitEnd (h h' : Heap) (x C dx t1 : Addr) (fld : Str) (v : Value) : Prop where
  keep : ∀ b o, b ≠ x → h.get? b = some o → h'.get? b = some o
  obj : h'.get? x = some { cls := .ref C, dict := some dx, data := .fields #[.ref t1, .none, .none, .none, .bool false, .none] }
  dbig : h.objs.size ≤ dx
  dne : dx ≠ x
  ns : h'.Ns1 dx (fun y => if y = fld then some v else none)
structure OwnMade (h h' : Heap) (e C d : Addr) (fld : Str) (v : Value) : Prop where
  keep : ∀ b o, h.get? b = some o → h'.get? b = some o
  new : h.objs.size ≤ e
  obj : ∃ oe vs, h'.get? e = some oe ∧ oe.cls = .ref C ∧ oe.dict = some d ∧ oe.data = .fields vs ∧ vs[1]? = some .none
  dbig : h.objs.size ≤ d
  dne : d ≠ e
  ns : h'.Ns1 d (fun y => if y = fld then some v else none)
section
variable {prog : Program} {w : World} {A : Around} {E : Value → Shared → Prop} {R : Result → Shared → Prop} {s : Shared} {K : Frag} {mg : Str → Option Value} {C fI : Addr} {nm fld msg : Str}
theorem err_init (T : ErrTxt prog K mg nm C fI fld msg) {x t0 : Addr} {v : Value} (X : K.In s.heap) (hlim : s.heap.NoLimit) (G : s.heap.Ns mainGlobals mg) (B : ∃ mb, s.heap.Ns builtinsNs mb ∧ ∀ x : Str, x ≠ "__name__" → mb x = bootBuiltins x) (hx : s.heap.get? x = some (excO C t0)) (hroom : A.depth < recursionLimit) (hnx : K.lookup x = none)
    (hq : ∀ h' tk dx t1, InitEnd s.heap h' x C dx t1 fld v → R (.ok (.ret .none)) { s with heap := h', toks := tk }) {args : Args} (form : args = ⟨[.ref x, v], []⟩ ∨ args = ⟨[.ref x], [(fld, v)]⟩ := by exact .inl rfl) :
    codeAny (model prog w) A (.call (.ref fI) args) R s := by
  obtain ⟨oc, od, doc, pm, an, ct, qn, osl, qual, ns, cda, cc, j, p1, p2, a1, a2, a3, a4, a5, a6, q1, q2, q3, q4, ho, hcd, ⟨ccl, cdd, vs, ccs, file, tf, hcode, hvs, hfile⟩, ⟨cl, cld, csl, hcell⟩, ssup, scls, sself, sfld, snc, hbi, hbk, hev⟩ := T.fn
  obtain ⟨nm', q, N, bs, bm, sn, sub, ab, col, dd, k0, k1, k2, k3, k5, hC, hbm⟩ := T.cls
  obtain ⟨mb, hb, hbb⟩ := B
  have hcl : clsIn K C = some { name := nm', bases := bs, mro := .ref C :: bm, ns := N, qualname := q, hasDict := true, slotNames := sn, subclasses := sub, abstract := ab, collection := col, hasDel := false } := by unfold clsIn; rw [hC] <;> rfl
  refine ks_codeAny_call_defAt (fd := ksFn "__init__" qual (iniA fld p1 p2) (iniB fld msg j a1 a2 a3 a4 a5 a6 q1 q2 q3 q4) (iniS ns) .none .none doc pm an (.ref cda) ct cc) (body := iniB fld msg j a1 a2 a3 a4 a5 a6 q1 q2 q3 q4) (binds := [("self", .ref x), (fld, v)]) hroom (X _ _ ho) rfl hlim (codeRec_of X hcd) rfl (form.elim (fun e => by rw [e]; exact hbi _ _ _) fun e => by rw [e]; exact hbk _ _ _) snc ?_ (fun h₁ hns k => ?_) rfl rfl rfl
  · intro y hy
    rcases List.mem_cons.mp hy with e | hy
    · subst e; exact sself
    · rcases List.mem_cons.mp hy with e | hy
      · subst e; exact sfld
      · cases hy
  · have X₁ : K.In h₁ := X.keeps k
    have hx₁ := k _ _ hx
    have hxL : s.heap.objs.size ≠ x := Nat.ne_of_gt (Heap.lt_size hx)
    have mself : ([(("self" : Str), Value.ref x), (fld, v)].reverse.lookup ("self" : Str)) = some (.ref x) := by
      show List.lookup ("self" : Str) [(fld, v), (("self" : Str), Value.ref x)] = some (.ref x)
      have : (("self" : Str) == fld) = false := by
        have := T.fld2
        rw [beq_eq_false_iff_ne] at this ⊢
        exact fun z => this z.symm
      simp [List.lookup, this]
    have mfld : ([(("self" : Str), Value.ref x), (fld, v)].reverse.lookup fld) = some v := by
      show List.lookup fld [(fld, v), (("self" : Str), Value.ref x)] = some v
      simp [List.lookup]
    have F₁ : Fr (hideAll s.heap [x]) s.heap.objs.size h₁ (fun y => [(("self" : Str), Value.ref x), (fld, v)].reverse.lookup y) := ⟨hns, fun b o e => k b o (of_hideAll _ e), Nat.le_of_eq (hideAll_size _ _)⟩
    have N₁ : News (hideAll s.heap [x]) s.heap.objs.size h₁ [(x, excObj C t0 none .none)] := fun p hp => by
      have e : p = (x, excObj C t0 none .none) := by simpa using hp
      subst e
      exact ⟨hx₁, fun z => hxL z.symm, hideAll_none _ List.mem_cons_self⟩
    have X0 : K.In (hideAll s.heap [x]) := fun b o e => hideAll_get _ (X b o e) (fun z => by
      have e2 : b = x := by simpa using z
      rw [e2, hnx] at e
      cases e)
    have hD : ∃ oD, h₁.get? C = some oD ∧ oD.data = .cls { name := nm', bases := bs, mro := .ref C :: bm, ns := N, qualname := q, hasDict := true, slotNames := sn, subclasses := sub, abstract := ab, collection := col, hasDel := false } := ⟨_, X₁ _ _ hC, rfl⟩
    obtain ⟨oD, hD1, hD2⟩ := hD
    obtain ⟨pl, hpl⟩ := hev (ksEnv qual (iniS ns) s.heap.objs.size fI (.ref cda) cc)
    refine ks_wpAt_execs_cons (ks_wpAt_Expr_any (ks_wpAt_MethodCall ?_ hpl))
    refine ks_wpAt_super_base (env := ksEnv qual (iniS ns) s.heap.objs.size fI (.ref cda) cc) ssup scls (by decide) rfl (X₁ _ _ ho) rfl rfl rfl (X₁ _ _ hcode) rfl hvs hfile T.top ?_
    refine ks_loadName_global rfl ssup (loadGlobal_builtin (env := ksEnv qual (iniS ns) s.heap.objs.size fI (.ref cda) cc) (G.keeps k) T.nsup (hb.keeps k) ((hbb _ (by decide)).trans (by decide +kernel : bootBuiltins "super" = some (.type "super"))) ⟨rfl, ?_⟩)
    refine wpAny_loadName_free rfl scls rfl ⟨_, X₁ _ _ hcell, rfl⟩ ?_
    refine wpAny_loadName_local rfl sself hns mself ?_
    refine ks_wpAny_isType_cls hD1 hD2 ⟨rfl, ?_⟩
    refine ks_wpAny_call_super hD1 hD2 hx₁ rfl (fun c e => by cases e) (looks_mroIn X₁ T.mrC) (fun h₂ e₂ k₂ => ?_)
    obtain ⟨F₂, N₂, l₂⟩ := ks_newsPush (s := ⟨h₁, s.gens, s.drawn, s.toks + 2, s.os⟩) F₁ N₁ rfl e₂ k₂
    refine kxs_method (s := { s with heap := h₂, toks := s.toks + 2 }) (x := x) kxs_ValueError F₂ X0 N₂ List.mem_cons_self (.of_exc0 N₂ (List.mem_cons_of_mem _ List.mem_cons_self)) T.opq T.sup T.veC (by decide) fun u h₃ F₃ N₃ l₃ => ?_
    refine kxs_callWith1 (x := x) N₃ List.mem_cons_self (spliced_cons (Calls.Constant_str (pos := a4) (k := j) (spliced_nil ⟨kxs_at N₃ List.mem_cons_self, ?_⟩)))
    have hux : u ≠ x := fun z => Nat.lt_irrefl _ (z ▸ l₃ _ (List.mem_cons_of_mem _ List.mem_cons_self) : x < x)
    have hsx : h₁.objs.size ≠ x := Nat.ne_of_gt (l₂ _ List.mem_cons_self)
    refine kxs_call (s := { s with heap := h₃, toks := s.toks + 2 + 1 + 1 }) F₃ X0 N₃ PySem.F.excBase_ValueError T.q List.mem_cons_self (.tail hux (.tail hsx (.head fun _ z => nomatch z))) (one_size _) fun t1 h₄ F₄ N₄ l₄ => ?_
    have hx₄ : h₄.get? x = some { cls := .ref C, data := .fields #[.ref t1, .none, .none, .none, .bool false, .none] } := (N₄ (x, excObj C t1 none .none) (List.mem_cons_of_mem _ (List.mem_cons_of_mem _ (List.mem_cons_of_mem _ List.mem_cons_self)))).1
    have kp₄ : ∀ b o, b ≠ x → s.heap.get? b = some o → h₄.get? b = some o := fun b o hbx e => F₄.keep b o (hideAll_get _ e (by simpa using hbx))
    have X₄ : K.In h₄ := fun b o e => F₄.keep b o (X0 b o e)
    refine ks_wpAt_execs_cons (wpAt_of_wpAny (plainObj_wpAny_Assign_Attribute ?_ (by rfl)))
    refine wpAny_Name (wpAny_loadName_local (env := ksEnv qual (iniS ns) s.heap.objs.size fI (.ref cda) cc) rfl sfld F₄.ns mfld ?_) T.fld1
    refine wpAny_Name (wpAny_loadName_local (env := ksEnv qual (iniS ns) s.heap.objs.size fI (.ref cda) cc) rfl sself F₄.ns mself ?_) (by decide)
    refine set_plain X₄ (ox := { cls := .ref C, data := .fields #[.ref t1, .none, .none, .none, .bool false, .none] }) (od := none) ⟨hx₄, rfl, rfl, trivial⟩ T.sa ?_
    refine exc_osa X₄ hx₄ hcl (show refsVE (.ref C :: bm) = true from hbm) rfl T.noN (fun h₅ tk₅ dx k₅ dn dne hx₅ hn₅ => ?_)
    refine wpAt_of_wpAny (wpAny_execs_nil ?_)
    refine hq h₅ tk₅ dx t1 ⟨fun b o hb e => k₅ b o hb (kp₄ b o hb e), hx₅, ?_, dne, hn₅⟩
    have z : s.heap.objs.size < h₄.objs.size := F₄.ns.lt
    exact Nat.le_of_lt (Nat.lt_of_lt_of_le z dn)
theorem err_made (T : ErrTxt prog K mg nm C fI fld msg) {v : Value} (X : K.In s.heap) (hlim : s.heap.NoLimit) (G : s.heap.Ns mainGlobals mg) (B : ∃ mb, s.heap.Ns builtinsNs mb ∧ ∀ x : Str, x ≠ "__name__" → mb x = bootBuiltins x) (hroom : A.depth + 1 < recursionLimit)
    (hq : ∀ h' tk e d, OwnMade s.heap h' e C d fld v → R (.ok (.ret (.ref e))) { s with heap := h', toks := tk }) :
    codeAny (model prog w) A (.call (.ref C) ⟨[v], []⟩) R s := by
  obtain ⟨nm', q, N, bs, bm, sn, sub, ab, col, dd, k0, k1, k2, k3, k5, hC, hbm⟩ := T.cls
  obtain ⟨hp, g, dr, tk, os⟩ := s
  have k : ∀ b o, hp.get? b = some o → ((hp.push (kdv_tup [v])).push (excO C hp.objs.size)).get? b = some o := fun b o e => Heap.get?_push_of_some _ (Heap.get?_push_of_some _ e)
  have hget : ((hp.push (kdv_tup [v])).push (excO C hp.objs.size)).get? (hp.objs.size + 1) = some (excO C hp.objs.size) := by heap_get
  have hnx : K.lookup (hp.objs.size + 1) = none := by
    cases e : K.lookup (hp.objs.size + 1) with
    | none => rfl
    | some o =>
      have z : hp.get? (hp.objs.size + 1) = some o := X _ _ e
      exact absurd (Nat.lt_of_succ_lt (Heap.lt_size z)) (Nat.lt_irrefl _)
  refine call_own F.excBase_ValueError (fun X => refsVE_contains X bm hbm) (X _ _ hC) (looks_findIn X T.iC) (fun self => bind_fn X self T.tC) (one_size v) ?_
  refine err_init (v := v) (s := ⟨(hp.push (kdv_tup [v])).push (excO C hp.objs.size), g, dr, tk, os⟩) T (X.keeps k) (hlim.keeps k) (G.keeps k) (let ⟨mb, b1, b2⟩ := B; ⟨mb, b1.keeps k, b2⟩) hget ?_ hnx fun h' tk' dx t1 ⟨k', hx, dn, dne, hns⟩ => ?_
  · show A.depth + 1 < recursionLimit
    exact hroom
  · have old : ∀ b o, hp.get? b = some o → h'.get? b = some o := fun b o e => k' b o (Nat.ne_of_lt (Nat.lt_succ_of_lt (Heap.lt_size e))) (k b o e)
    have z : hp.objs.size + 1 + 1 ≤ dx := by
      first
        | (simpa only [Heap.size_push] using dn)
        | exact dn
        | (have q := dn; rw [Heap.size_push, Heap.size_push] at q; exact q)
    exact ⟨rfl, hq h' tk' (hp.objs.size + 1) dx ⟨old, Nat.le_succ _, ⟨_, _, hx, rfl, rfl, rfl, rfl⟩, Nat.le_trans (Nat.le_trans (Nat.le_succ _) (Nat.le_succ _)) z, dne, hns⟩⟩
end
end RW
namespace RW
open PySem PySem.Spec PyProof.Rows L2
variable [Tbl]
theorem relO_fld {fld : Str} {v : V} {v' : Value} (r : RelV v v') (f : Str) : RelO (List.lookup f [(fld, v)]) (if f = fld then some v' else none) := by
  by_cases hw : f = fld
  · subst hw
    rw [if_pos rfl]
    have q : List.lookup f [(f, v)] = some v := by simp [List.lookup]
    rw [q]
    exact r
  · rw [if_neg hw]
    have qw : (f == fld) = false := by simpa using hw
    have q2 : List.lookup f [(fld, v)] = none := by simp [List.lookup, qw]
    rw [q2]
    trivial
section
variable {X : Cx} {C fI : Addr} {nm fld msg : Str}
def tMkErr (C : Addr) (fld : Str) (ta : TA) : L2.St → Hp → XK → Prop := fun σ H Q => ta σ H fun vs H1 => ∃ v, vs = [v] ∧ ∀ d, H1 d = none → Q (.ref C) (some d) (upd H1 d (.xd [(fld, v)]))
theorem made_mk {pins : List (Addr × Obj)} {σ : L2.St} {H1 : Hp} {s1 : Shared} {Q : XK} {k : Nat} {v : V} {v' : Value} (T : ErrTxt X.prog X.K X.mg nm C fI fld msg) (hr : Room k X.A) (I1 : Inv X pins σ H1 s1) (rv : RelV v v') (q1 : ∀ d, H1 d = none → Q (.ref C) (some d) (upd H1 d (.xd [(fld, v)]))) :
    wpAny (model X.prog X.w) X.A (call (.ref C) [v']) (MkP X pins σ Q) X.xe s1 := by
  have hlim := I1.nolimit
  have G := I1.mod.glob.keeps I1.bk
  obtain ⟨mb, b1, b2⟩ := I1.mod.blt
  have B := b1.keeps I1.bk
  obtain ⟨hp, g, dr, tk, os⟩ := s1
  refine wpAny_call (err_made T I1.kIn hlim G ⟨mb, B, b2⟩ (by have := hr.dp; omega) fun h' tk' e d M => ?_)
  show MkP X pins σ Q (.ref e) ⟨h', g, dr, tk', os⟩
  obtain ⟨oe, fv, hoe, hc, hd, hdat, h1⟩ := M.obj
  have hns := M.ns
  obtain ⟨G', g1, g2⟩ := restrict h' fun b => decide (b ≠ e)
  have gk : ∀ b, b ≠ e → G'.get? b = h'.get? b := fun b hb => g1 b (decide_eq_true hb)
  have ge : G'.get? e = none := g2 e (by simp)
  have old : ∀ b o, hp.get? b = some o → G'.get? b = some o := fun b o q => (gk b (Nat.ne_of_lt (Nat.lt_of_lt_of_le (Heap.lt_size q) M.new))).trans (M.keep b o q)
  have ob : ObjOk X.prog X.w (upd H1 d (.xd [(fld, v)])) G' d (.xd [(fld, v)]) :=
    ⟨_, hns.at (fun o q => (gk d M.dne).trans q), fun f => relO_fld rv f⟩
  have J : Inv X pins σ (upd H1 d (.xd [(fld, v)])) ⟨G', g, dr, tk', os⟩ := I1.laid (t' := tk') old M.dbig ob
  refine ⟨e, oe, fv, ⟨G', g, dr, tk', os⟩, _, .ref C, some d, rfl, J, fun b o q => ?_, ge, hoe, ⟨hc, hd⟩, hdat, h1, ?_, rfl, I1.bare, raises_own T.exC T.tyC, q1 d (I1.hok.fresh M.dbig)⟩
  · by_cases hb : b = e
    · have q' : G'.get? b = some o := q
      rw [hb, ge] at q'; cases q'
    · exact (gk b hb).symm.trans q
  · rw [upd_ne (Ne.symm M.dne)]
    exact I1.hok.fresh M.new
theorem pmk_err {a : Expr} {ta : TA} {p pos : Pos} {k : Nat} (T : ErrTxt X.prog X.K X.mg nm C fI fld msg) (hr : Room k X.A) (ha : PA X [a] ta) (hg : Gl X nm := by rfl) (hdb : (nm == ("__debug__" : Str)) = false := by decide)
    (he : starEach (a :: []) X.env = (false, eval a X.env) :: starEach [] X.env := by rfl) (hpl : (backTo pos (starEach [] X.env)).any (·.1) = false := by rfl) :
    PMk X (.Call (.Name nm p) [a] [] pos) (tMkErr C fld ta) := by
  intro pins s σ H Q I h
  refine wpAny_Call_Name_kw (ld_glob I hg T.gC ?_ hdb)
  refine PySem.W.callWith_K (h₀ := X.base) I.ok.mod.kin T.kC (thn (ha.run pos pins s σ H _ I h) fun us s1 hh => ?_) he hpl
  obtain ⟨vs, H1, I1, r1, v, ev, q1⟩ := hh
  subst ev
  refine ⟨I1.kIn, ?_⟩
  cases r1 with
  | cons rv rn =>
    cases rn
    exact made_mk T hr I1 rv q1
end
section
variable {C : Cxt} {E : XK} {g : Gh} {B0 : Addr → Prop} {ρ : List Addr} {S : Sto} {H H' : Hp}
theorem XPost.here {x : D} {cls : Value} {d : Option Addr} (h : XPost C E g B0 ρ S H x) (R' : Rel C g B0 ρ S H') (e : Ext g B0 ρ S H g ρ S H') (rx : RX C g (Bad g B0 [] []) H' x cls d) : E cls d H' :=
  h g H' cls d R'.nil ⟨e.imm, e.keep, fun b o a n z => n (.inl z), .refl⟩ rx
end
def sRaise (nm fld : Str) (t : MA) : MS := fun K env S => t env S (fun ws S' => ∃ x, ws = [.d x] ∧ K.ex (.exc nm [(fld, x)])) K.ex
def sRaise0 (nm : Str) (m : MX) : MS := fun K env S => m env S (fun w S' => K.ex (.exc nm [])) K.ex
section
variable {E : XK} {X : Cx} {C fI : Addr} {nm fld msg : Str} {a : Expr} {t : MA} {m : MX} {p pos pos' : Pos} {k : Nat}
theorem ms_raise (T : ErrTxt X.prog X.K X.mg nm C fI fld msg) (hc : X.calm = true) (tk : Takes X (fun cls d _ H => E cls d H)) (hr : Room k X.A) (ha : MAJ E X [a] t) (hg : Gl X nm := by rfl) (hdb : (nm == ("__debug__" : Str)) = false := by decide)
    (he : starEach (a :: []) X.env = (false, eval a X.env) :: starEach [] X.env := by rfl) (hpl : (backTo pos (starEach [] X.env)).any (·.1) = false := by rfl) :
    MSJ E X (.Raise (some (.Call (.Name nm p) [a] [] pos)) none pos') (sRaise nm fld t) := by
  refine ⟨PS.imp (ps_raise hc tk (pmk_err T hr ha.pa hg hdb he hpl)) fun D' σ H ⟨g, B0, ρ, env, S, R, N, q⟩ => ?_, fun K K' env S k h => ha.mono _ _ _ _ _ _ (fun w S' ⟨x, a, b⟩ => ⟨x, a, k.ex _ b⟩) k.ex h⟩
  refine tMA.go ha.mono R N q (fun _ z => z) fun ws S1 ⟨x, ew, q1⟩ g1 ρ1 H1 vs R1 e1 r1 => ?_
  subst ew
  cases r1 with
  | cons rv rn =>
    cases rn
    rename_i v
    refine ⟨v, rfl, fun d hd => ?_⟩
    obtain ⟨R2, e2, nb⟩ := R1.new (o := .xd [(fld, v)]) hd
    exact (XPost.ext e1 q1).here R2 e2 (.exc1 T.gC upd_same (.cons (RV.mono (Up.weak fun _ => bad_nil) (RV.mono e2.up rv)) .nil))
theorem ms_raise0 {bmB : List Value} {B newId initId : String} (F : ExcBaseFacts B newId initId bmB) (q : PySem.W.excIn X.K C bmB newId = true) (gC : X.mg nm = some (.ref C)) (kC : PySem.W.keepIn X.K (.ref C) = true) (r : Raises X (.ref C)) (hc : X.calm = true) (tk : Takes X (fun cls d _ H => E cls d H)) (ha : ME E X a m)
    (hg : Gl X nm := by rfl) (hdb : (nm == ("__debug__" : Str)) = false := by decide) (he : starEach [a] X.env = (false, eval a X.env) :: starEach [] X.env := by rfl) :
    MSJ E X (.Raise (some (.Call (.Name nm p) [a] [] pos)) none pos') (sRaise0 nm m) := by
  refine ⟨PS.imp (ps_raise hc tk (SkE.pmk_own1 F q gC kC r hg ha.pe he hdb)) fun D' σ H ⟨g, B0, ρ, env, S, R, N, q⟩ => ?_, fun K K' env S k h => ha.mono _ _ _ _ _ _ (fun w S' b => k.ex _ b) k.ex h⟩
  refine tM.go ha.mono R N q (fun _ z => z) fun w S1 q1 g1 ρ1 H1 v1 R1 e1 r1 => ?_
  exact (XPost.ext e1 q1).here R1 Ext.refl (.exc0 gC)
end
end RW
/-! RwCaught: an error that an except clause names, kept as a value behind the clause. -/
namespace RW
open PySem PySem.Spec PyProof.Rows L2
variable [Tbl]
section
variable {X : Cx} {ps : List (Addr × Obj)} {σ : L2.St} {H : Hp} {s : Shared}
/-- an object that came since the entry and that nothing tracks is tracked from now on -/
theorem Inv.adopt {a : Addr} {φ : Heap → Prop} {u : Obj} (I : Inv X ((a, u) :: ps) σ H s) (n0 : X.s_0.heap.get? a = none) (hp0 : ∀ p ∈ X.pn ++ ps, p.1 ≠ a) (hf : φ s.heap) (st : ∀ g g' : Heap, φ g → (∀ o, g.get? a = some o → g'.get? a = some o) → φ g') : Inv X ps σ (upd H a (.ext φ)) s := by
  have pin := I.pin (a, u) (List.mem_append_right _ List.mem_cons_self)
  have na : H a = none := pin.2.1
  have old : ∀ b o, X.s_0.heap.get? b = some o → b ≠ a := fun b o e z => by
    rw [z, n0] at e
    cases e
  have same : ∀ b o, H b = some o → upd H a (.ext φ) b = some o := fun b o e => (upd_ne (ne_of_none e na)).trans e
  have cellNe : ∀ y c, X.env.cells.lookup y = some c → c ≠ a := fun y c e z => by
    obtain ⟨v, o, ho, hd⟩ := I.cell y c e
    rw [z, pin.1] at ho
    cases ho
    exact pin.2.2.2.2 v hd
  exact
    { ok := I.ok
      os := I.os
      bare := I.bare
      base :=
        { keep := I.base.keep
          slot := I.base.slot
          free := fun b o e n h => (upd_ne (old b o e)).trans (I.base.free b o e n h)
          there := I.base.there
          tups := fun b xs e => same _ _ (I.base.tups b xs e)
          frzs := fun b o xs e => same _ _ (I.base.frzs b o xs e)
          tbls := fun b qs e => let ⟨m, q⟩ := I.base.tbls b qs e; ⟨m, same _ _ q⟩ }
      loc := I.loc
      cell := I.cell
      free := (upd_ne (Ne.symm pin.2.2.1)).trans I.free
      freeC := fun y c e => (upd_ne (cellNe y c e)).trans (I.freeC y c e)
      pin := fun p hp => by
        have q := I.pin p ((List.mem_append.mp hp).elim (fun z => List.mem_append_left _ z) fun z => List.mem_append_right _ (List.mem_cons_of_mem _ z))
        exact ⟨q.1, (upd_ne (hp0 p hp)).trans q.2.1, q.2.2⟩
      hok := fun b o e => by
        by_cases hb : b = a
        · subst hb
          rw [upd_same] at e
          cases e
          exact ⟨hf, ⟨u, pin.1⟩, fun g g' => st g g'⟩
        · rw [upd_ne hb] at e
          exact (I.hok b o e).stay (fun _ _ _ q => q) (fun c q => same _ _ q) fun c xs q => same _ _ q
      len := I.len }
end
/-- what the clause wishes: the caught object is told of the heap behind the clause -/
def wKeep (K : PySem.W.Frag) (c : Value) (i : Nat) (ts : Addr → Value → Option Addr → TS) (Wout : WX) (D : Ends) : WX := fun cls d σ H =>
  ∃ b Ca, cls = .ref Ca ∧ PySem.W.exmOne K cls c = some b ∧ (b = true → ∀ a, H a = none → ts a cls d { nx := fun σ' H' => D.nx (σ'.set i none) (upd H' a (ExK Ca d a)), rt := fun _ _ => False } (σ.set i (some (.ref a))) H) ∧ (b = false → Wout cls d σ H)
section
variable {X : Cx} {x n : Str} {c : Value} {i : Nat} {body rest : List Stmt} {st : Stmt} {np pos pos' : Pos} {tb : WX → TS} {ts : Addr → Value → Option Addr → TS} {Wout : WX}
theorem ps_keep (hs : X.stack = X.env :: X.outer) (hf : X.env.frame = some X.env.locals) (hex : X.ex = []) (hN : X.N.Nodup) (hi : X.N[i]? = some n) (hln : X.env.kindOf n = some .local) (hc : Names X x c) (tk : Takes X Wout)
    (hb : ∀ (W : WX) (pn : List (Addr × Obj)) (xe : Value → Shared → Prop), Takes (X.tr pn xe) W → PassesOwn (model X.prog X.w) X.A X.env xe → PSs (X.tr pn xe) body (tb W))
    (hsu : ∀ (a : Addr) (oe : Obj) (cls : Value) (d : Option Addr) (pn : List (Addr × Obj)), Zc cls d oe → (∃ vs, oe.data = .fields vs) → PSs (X.suite a ((a, oe) :: pn)) (st :: rest) (ts a cls d)) :
    PS X (.Try body [.ExceptHandler (some (.Name x np)) (some n) (st :: rest) pos'] [] [] pos) (fun D σ H => tb (wKeep X.K c i ts Wout D) D σ H) := by
  refine ⟨fun pins s σ H D I h => wpAny_Try_except ?_⟩
  have okX := I.ok
  have frames : X.A.frames = some (X.env :: X.outer) := okX.frames.trans (by rw [hs])
  refine wpAny_mono ((hb _ (X.pn ++ pins) _ (fun u s' air => ?_) PassesOwn.looking).run [] s σ H D (I.toTry _) h) (fun fl s1 z => ?_) fun _ _ z => z
  rotate_left
  · cases fl with
    | next => obtain ⟨σ1, H1, J1, q⟩ := z; exact wpAny_execs_nil ⟨σ1, H1, J1.ofTry okX, q⟩
    | brk => obtain ⟨σ1, H1, J1, q⟩ := z; exact ⟨σ1, H1, J1.ofTry okX, q⟩
    | cont => obtain ⟨σ1, H1, J1, q⟩ := z; exact ⟨σ1, H1, J1.ofTry okX, q⟩
    | ret u => obtain ⟨v1, σ1, H1, J1, r, q⟩ := z; exact ⟨v1, σ1, H1, J1.ofTry okX, r, q⟩
  · obtain ⟨a, B, sI, pins1, σ1, H1, cls, d, eu, J1, ground, slots, sky, na, eos, bare, b, Ca, ecl, hm, yes, no⟩ := air
    subst eu
    have J : Inv X pins σ1 H1 sI := J1.ofTry okX
    rw [show (X.tr (X.pn ++ pins) _).stack = X.env :: X.outer from hs] at sky
    refine Sky.land Zc.steady frames hf sky fun g fl up => ?_
    have Jg : Inv X pins σ1 H1 { s' with heap := g } := J.landed ground fl.1 (slots.trans up) eos bare
    obtain ⟨og, vg, atg, zg, dg⟩ := fl.there
    have notFrame : a ∉ frs (X.env :: X.outer) := fun mem => by
      obtain ⟨_, o, e, nf⟩ := fl.2.2.1.mem mem
      rw [atg] at e
      cases e
      exact nf _ dg
    have notL : a ≠ X.env.locals := fun e => notFrame (List.mem_filterMap.mpr ⟨X.env, List.mem_cons_self, by rw [hf, e]⟩)
    have notF : a ∉ X.fs := fun mem => by
      obtain ⟨en, he, q⟩ := List.mem_filterMap.mp mem
      exact notFrame (List.mem_filterMap.mpr ⟨en, List.mem_cons_of_mem _ he, q⟩)
    have newI : sI.heap.get? a = none := by
      cases e : sI.heap.get? a with
      | none => rfl
      | some o =>
        have q := ground a o e (by rw [hs]; exact notFrame)
        rw [fl.2.1] at q
        cases q
    have new0 : X.s_0.heap.get? a = none := by
      cases e : X.s_0.heap.get? a with
      | none => rfl
      | some o =>
        obtain ⟨o', q⟩ := J.base.there a o e (by rw [hex]; exact fun z => nomatch z)
        rw [newI] at q
        cases q
    have pinNe : ∀ p ∈ X.pn ++ pins, p.1 ≠ a := fun p hp z => by
      have q := (J.pin p hp).1
      rw [z, newI] at q
      cases q
    have Sg := Jg.suite atg dg na notL notF
    refine wpAny_handleBy_cons (codeAny_handlers_test ?_) (by intro q; cases q)
    have typ : PySem.W.Looks (model X.prog X.w) g (typeOf (.ref a)) cls := fun A Q E s k q => wpAny_typeOf_ref (k _ _ atg) (by rw [zg.1]; exact q)
    have ask := PySem.W.exm_one (M := model X.prog X.w) Jg.kIn typ hm
    have load : ∀ {Q E : Value → Shared → Prop}, Q c { s' with heap := g } → wpAny (model X.prog X.w) (X.A.mark (some (.ref a))) (eval (.Name x np) X.env) Q E { s' with heap := g } := fun q => by
      obtain ⟨hg, hdb, z | ⟨z1, z2, z3⟩⟩ := hc
      · exact ld_glob (X := X.suite a ((a, og) :: (X.pn ++ pins))) Sg hg z q hdb
      · exact ld_blt (X := X.suite a ((a, og) :: (X.pn ++ pins))) Sg hg z1 z2 q z3 hdb
    refine load (ask.here ?_)
    cases b with
    | false =>
      show wpAny _ X.A (handleBy (.ref a) X.env []) _ _ _
      refine wpAny_handleBy_nil ?_
      obtain ⟨_, _, _, o1, f1, T, _, _, at1, _, d1, i1, _⟩ := id fl
      unfold PySem.passOn
      refine wpAny_bind (wpAny_field at1 d1 i1 ?_)
      rw [if_neg (by simp)]
      have away : wpAny (model X.prog X.w) X.A (setFlight (.ref a) X.env.frame) (fun _ s4 => wpAny (model X.prog X.w) X.A (throw (.ref a) : Sem Flow) (SP X pins D) X.xe s4) X.xe { s' with heap := g } := by
        rw [hf]
        exact HandSPX.setFlight_upZ fl fun g4 held up4 => wpAny_throw (tk _ _ ⟨a, B, sI, pins, σ1, H1, cls, d, rfl, J, ground, (slots.trans up).trans up4, .inr (.inr (by rw [hs]; exact held)), na, eos, bare, no rfl⟩)
      first
        | exact wpAny_bind (wpAny_pure (wpAny_bind away))
        | exact wpAny_bind away
    | true =>
      refine codeAny_handlers_suite_as (HandSPX.lands_againZ fl fun g4 fl4 up4 => ?_)
      have J4 : Inv X pins σ1 H1 { s' with heap := g4 } := J.landed ground fl4.1 ((slots.trans up).trans up4) eos bare
      obtain ⟨o4, v4, at4, z4, d4⟩ := fl4.there
      refine store_ok (X := X.suite a ((a, o4) :: (X.pn ++ pins))) (v := .ref a) (J4.suite at4 d4 na notL notF) hN hi (.inl hln) rfl (fun s5 S5 => ?_) (.inr hln)
      refine wpAny_mono ((hsu a o4 cls d (X.pn ++ pins) z4 ⟨_, d4⟩).run [] s5 _ H1 _ S5 (yes rfl a na)) (fun f s6 hsp => ?_) fun _ _ z => z.elim
      cases f with
      | next =>
        obtain ⟨σ6, H6, S6, q6⟩ := hsp
        have P6 : Inv X ((a, o4) :: pins) σ6 H6 s6 := ⟨okX, S6.os, S6.bare, S6.base, S6.loc, S6.cell, S6.free, S6.freeC, fun p hp => by
          refine S6.pin p (List.mem_append_left _ ?_)
          rcases List.mem_append.mp hp with z | z
          · exact List.mem_cons_of_mem _ (List.mem_append_left _ z)
          · rcases List.mem_cons.mp z with z | z
            · rw [z]; exact List.mem_cons_self
            · exact List.mem_cons_of_mem _ (List.mem_append_right _ z), S6.hok, S6.len⟩
        refine gone_ok P6 hN hi hln fun s7 J7 => ⟨_, _, Inv.adopt (u := o4) J7 new0 pinNe ?_ ?_, q6⟩
        · exact ⟨o4, v4, (J7.pin (a, o4) (List.mem_append_right _ List.mem_cons_self)).1, by rw [z4.1, ecl], z4.2, d4⟩
        · rintro g5 g6 ⟨oe, vs, e1, e2⟩ k
          exact ⟨oe, vs, k _ e1, e2⟩
      | brk => obtain ⟨_, _, _, z⟩ := hsp; exact z.elim
      | cont => obtain ⟨_, _, _, z⟩ := hsp; exact z.elim
      | ret u => obtain ⟨_, _, _, _, _, z⟩ := hsp; exact z.elim
end
end RW
/-! RwLam: a lambda without parameters as a value that is tracked; called within a def that got it. -/
namespace RW
open PySem PySem.Spec PyProof.Rows L2
variable [Tbl]
/-- what stands at a lambda's address -/
def lamAt (qual : Str) (cells : List (Str × Addr)) (params : Arguments) (body : Expr) (scope : Scope) (f c' : Addr) : HO :=
  .ext fun h => ∃ pm ctv : Value, h.get? f = some (PySem.W.kla_obj "<lambda>" qual params body scope (cloFrom cells scope.names []) pm c' ctv)
def lamO (X : Cx) (params : Arguments) (body : Expr) (scope : Scope) : Addr → Addr → HO := lamAt (X.env.qual ++ "<lambda>") X.env.cells params body scope
structure LamStep (T : List (Addr × Str)) (H H1 : Hp) (P : Addr) (q : Str) (O : Addr → Addr → HO) (f c' : Addr) : Prop where
  keep : ∀ b o, H b = some o → b ≠ P → H1 b = some o
  newf : H f = none
  atf : H1 f = some (O f c')
  code : H1 c' = some (LamX.CodeO c' q)
  codeN : H c' = none ∨ H c' = some (LamX.CodeO c' q)
  tabs : LamX.Tabs T H1
  tab : ∃ qs, H P = some (.tbl qs)
def tLamV (T : List (Addr × Str)) (P : Addr) (q : Str) (O : Addr → Addr → HO) : TE := fun _ H Q => LamX.Tabs T H ∧ ∀ f c' H1, LamStep T H H1 P q O f c' → Q (.ref f) H1
section
variable {X : Cx} {pins : List (Addr × Obj)} {σ : L2.St} {H : Hp} {s : Shared}
theorem lam_ok {params : Arguments} {body : Expr} {scope : Scope} {h : Heap} {f c' : Addr} {pm ctv : Value} {H' : Hp}
    (e : h.get? f = some (PySem.W.kla_obj "<lambda>" (X.env.qual ++ "<lambda>") params body scope (cloFrom X.env.cells scope.names []) pm c' ctv)) : ObjOk X.prog X.w H' h f (lamO X params body scope f c') :=
  ⟨⟨pm, ctv, e⟩, ⟨_, e⟩, fun _ _ ⟨p, c, q⟩ k => ⟨p, c, k _ q⟩⟩
theorem pe_lam {T : List (Addr × Str)} {c P : Addr} {params : Arguments} {body : Expr} {scope : Scope} {pos : Pos} (TB : LamX.TabB X.base X.mg c P) (hcode : X.env.code = .ref c) (hm : (P, X.env.qual ++ "<lambda>") ∈ T) (hu : ∀ p ∈ T, p.1 = P → p.2 = X.env.qual ++ "<lambda>")
    (hdef : defaultsOf params X.env = ([], [])) (hfree : ∀ y ∈ scope.names, y.2 = .free → X.env.scope.names.lookup y.1 = some .cell ∨ X.env.scope.names.lookup y.1 = some .free) :
    PE X (.Lambda params body scope pos) (tLamV T P (X.env.qual ++ "<lambda>") (lamO X params body scope)) := by
  refine ⟨fun pins s σ H Q I h => ?_⟩
  obtain ⟨hT, h⟩ := h
  obtain ⟨ps, hP, ht, ha⟩ := hT _ hm
  have hclo : ∀ y ∈ scope.names, y.2 = .free → ∃ a, X.env.cells.lookup y.1 = some a := fun y hy e => I.ok.has _ (hfree y hy e)
  have bP : s.heap.BuiltinsAt X.mg P := TB.bm.keeps I.bk
  have hP' : s.heap.get? P = some { cls := .none, data := .fields ps } := I.hok P _ hP
  refine PySem.W.kla_eval hdef ?_
  cases hc : codeAmong pos ps.toList with
  | none =>
    refine PySem.W.kla_makeFunction (mg := X.mg) (c := c) (P := P) (ps := ps) (closure_ok hclo) I.ok.glob (I.mod.glob.keeps I.bk) hcode (TB.code.keeps I.bk) hP' ht hc TB.gP bP fun c' ctv g tk kx ge lt rec tb => ?_
    obtain ⟨c2, oc, vs, t, e2, hoc, hd, hv⟩ := rec
    cases e2
    have nc : H c' = none := I.hok.fresh ge
    have sz : s.heap.objs.size ≤ g.objs.size := Nat.le_trans ge (Nat.le_of_lt lt)
    have nf : H g.objs.size = none := I.hok.fresh sz
    have J := LamX.inv_table (t' := tk) (more := #[rawInt pos.line, rawInt pos.col, .ref c']) (h' := g) I hP (fun b o hb e => kx b o hb e) tb ge ⟨oc, vs, t, hoc, hd, hv⟩
    have J2 := J.laid (t' := tk) (a := g.objs.size) (o := lamO X params body scope g.objs.size c') (h' := g.push (PySem.W.kla_obj "<lambda>" (X.env.qual ++ "<lambda>") params body scope (cloFrom X.env.cells scope.names []) ((X.mg "__name__").getD .none) c' ctv))
      (fun b o e => Heap.get?_push_of_some _ e) (Nat.le_refl _) (lam_ok (Heap.get?_push_size _ rfl))
    have fc : g.objs.size ≠ c' := Nat.ne_of_gt lt
    have fP : g.objs.size ≠ P := Nat.ne_of_gt (Nat.lt_of_lt_of_le (Heap.lt_size hP') sz)
    have Pc : P ≠ c' := ne_of_none hP nc
    have old : ∀ b o, H b = some o → b ≠ P → upd (upd (upd H P (.tbl (ps ++ #[rawInt pos.line, rawInt pos.col, .ref c']))) c' (LamX.CodeO c' (X.env.qual ++ "<lambda>"))) g.objs.size (lamO X params body scope g.objs.size c') b = some o := fun b o e n => by
      rw [upd_ne (ne_of_none e nf), upd_ne (ne_of_none e nc), upd_ne n]
      exact e
    have atc : upd (upd (upd H P (.tbl (ps ++ #[rawInt pos.line, rawInt pos.col, .ref c']))) c' (LamX.CodeO c' (X.env.qual ++ "<lambda>"))) g.objs.size (lamO X params body scope g.objs.size c') c' = some (LamX.CodeO c' (X.env.qual ++ "<lambda>")) := by
      rw [upd_ne (Ne.symm fc), upd_same]
    refine ⟨.ref g.objs.size, _, J2, rfl, h _ _ _ ⟨old, nf, upd_same, atc, .inl nc, fun p hp => ?_, ps, hP⟩⟩
    have eL : (ps ++ #[rawInt pos.line, rawInt pos.col, .ref c']).toList = ps.toList ++ [rawInt pos.line, rawInt pos.col, .ref c'] := by simp
    by_cases hb : p.1 = P
    · rw [hu p hp hb, hb]
      refine ⟨_, by rw [upd_ne (Ne.symm fP), upd_ne Pc, upd_same], by rw [eL]; exact PySem.TriplesOk_snoc _ _ _ _ ht, fun p' cv hcv => ?_⟩
      rw [eL] at hcv
      rcases LamX.among_app _ ht hcv with z | z
      · obtain ⟨c0, e1, e2⟩ := ha p' cv z
        exact ⟨c0, e1, old _ _ e2 fun y => by
          rw [y, hP] at e2
          exact LamX.codeO_ne _ (Option.some.inj e2).symm⟩
      · exact ⟨c', z, atc⟩
    · obtain ⟨qs, b1, b2, b3⟩ := hT p hp
      refine ⟨qs, old _ _ b1 hb, b2, fun p' cv hcv => ?_⟩
      obtain ⟨c0, e1, e2⟩ := b3 p' cv hcv
      exact ⟨c0, e1, old _ _ e2 fun y => by
        rw [y, hP] at e2
        exact LamX.codeO_ne _ (Option.some.inj e2).symm⟩
  | some cv =>
    obtain ⟨c', e, hco⟩ := ha pos cv hc
    subst e
    refine PySem.W.kla_makeFunctionHit (mg := X.mg) (c := c) (P := P) (ps := ps) (closure_ok hclo) I.ok.glob (I.mod.glob.keeps I.bk) hcode (TB.code.keeps I.bk) hP' ht hc bP fun ctv g tk kx sz => ?_
    have nf : H g.objs.size = none := I.hok.fresh sz
    have J2 := I.laid (t' := tk) (a := g.objs.size) (o := lamO X params body scope g.objs.size c') (h' := g.push (PySem.W.kla_obj "<lambda>" (X.env.qual ++ "<lambda>") params body scope (cloFrom X.env.cells scope.names []) ((X.mg "__name__").getD .none) c' ctv))
      (fun b o e => Heap.get?_push_of_some _ (kx b o e)) sz (lam_ok (Heap.get?_push_size _ rfl))
    have old : ∀ b o, H b = some o → upd H g.objs.size (lamO X params body scope g.objs.size c') b = some o := fun b o e => by
      rw [upd_ne (ne_of_none e nf)]
      exact e
    exact ⟨.ref g.objs.size, _, J2, rfl, h _ _ _ ⟨fun b o e _ => old b o e, nf, upd_same, old _ _ hco, .inr hco, hT.ext old, ps, hP⟩⟩
end
section
variable {C : Cxt} {g : Gh} {B0 : Addr → Prop} {ρ : List Addr} {S : Sto} {H H1 : Hp}
/-- a table of code objects is written -/
theorem Rel.table (R : Rel C g B0 ρ S H) {P : Addr} (hP : ∃ p ∈ g.2, p.1 = P) (k : ∀ b o, H b = some o → b ≠ P → H1 b = some o) (tP : ∃ qs, H P = some (.tbl qs)) (T1 : LamX.Tabs g.2 H1) : Rel C g B0 ρ S H1 ∧ Ext g B0 ρ S H g ρ S H1 := by
  obtain ⟨qs, tP⟩ := tP
  have nI : ∀ b o, H b = some o → (∀ qs, o ≠ .tbl qs) → b ≠ P := fun b o e n z => by
    rw [z, tP] at e
    exact n qs (Option.some.inj e).symm
  have own : Own g ρ S P := .inl (.inr hP)
  have E : Ext g B0 ρ S H g ρ S H1 := ⟨fun b o e im => k b o e (nI b o e fun qs z => by rw [z] at im; exact im), fun b o e n => k b o e fun z => n (z ▸ own), fun _ _ _ n => n, .refl, ⟨[], by simp⟩⟩
  refine ⟨⟨R.len, fun i o a h1 h2 => (R.obj i o a h1 h2).mono E.up ⟨[], by simp⟩ fun u e l => k a u e fun z => (R.out i o a h1 l h2).2 (z ▸ .inr hP), R.inj, R.out, fun a z => ?_, ?_, T1, R.dr.2.2⟩, E⟩
  · obtain ⟨o, e⟩ := R.b0 a z
    by_cases ha : a = P
    · obtain ⟨p, hp, e2⟩ := hP
      obtain ⟨qs', b1, _⟩ := T1 p hp
      exact ⟨_, by rw [ha, ← e2]; exact b1⟩
    · exact ⟨o, k a o e ha⟩
  · have d := R.dr.1
    obtain ⟨dr, T⟩ := g
    match dr, d with
    | none, _ => trivial
    | some (a, l, c), ⟨n1, n2, n3, L, N, r, t, h1, h2, h3, h4⟩ => exact ⟨n1, n2, n3, L, N, r, t, k _ _ h1 (nI _ _ h1 fun _ z => nomatch z), k _ _ h2 (nI _ _ h2 fun _ z => nomatch z), k _ _ h3 (nI _ _ h3 fun _ z => nomatch z), h4⟩
end
def mLam (n : Nat) (lm : Nat → Addr → Addr → HO) (q : Str) : MX := fun _ S Q _ => Q (.d (.act n (lm n) q)) S
section
variable {E : XK} {X : Cx}
theorem me_lam {n : Nat} {lm : Nat → Addr → Addr → HO} {q : Str} {c P : Addr} {params : Arguments} {body : Expr} {scope : Scope} {pos : Pos} (TB : LamX.TabB X.base X.mg c P) (hcode : X.env.code = .ref c) (hm : (P, q) ∈ Tbl.tabs) (hu : ∀ p ∈ Tbl.tabs, p.1 = P → p.2 = q)
    (hq : X.env.qual ++ "<lambda>" = q) (hl : lm n = lamO X params body scope := by rfl) (hdef : defaultsOf params X.env = ([], []) := by rfl) (L : LamX.LamS X.env.scope scope := by exact LamX.lamS_by (by rfl)) :
    ME E X (.Lambda params body scope pos) (mLam n lm q) := by
  subst hq
  refine ⟨PE.imp (pe_lam TB hcode hm hu hdef L.free) fun σ H Q ⟨g, B0, ρ, env, S, R, N, z⟩ => ⟨?_, fun f c' H1 S1 => ?_⟩, fun _ _ _ _ _ _ k _ z => k _ _ z⟩
  · have y := R.dr.2.1
    rw [R.dr.2.2] at y
    exact y
  · have hP : ∃ p ∈ g.2, p.1 = P := ⟨_, by rw [R.dr.2.2]; exact hm, rfl⟩
    obtain ⟨R1, e1⟩ := R.table hP S1.keep S1.tab (by rw [R.dr.2.2]; exact S1.tabs)
    exact z g ρ H1 _ R1 e1 (RV.act (c := c') (by rw [hl]; exact S1.atf) (R.newBad S1.newf) S1.code)
end
end RW
/-! RwAct: _law_caught(work): the lambda that it got is run; the error that it raises is given back. -/
namespace RW
open PySem PySem.Spec PyProof.Rows L2
variable [Tbl]
section
variable {X : Cx} {pins : List (Addr × Obj)} {σ : L2.St} {H : Hp} {s : Shared}
/-- work(), in the def that got the lambda -/
theorem pe_run {Ng : List Str} {qg : Str} {sg : Scope} {g f c' : Addr} {cdg : Value} {params : Arguments} {body : Expr} {scope : Scope} {k i : Nat} {a : Str} {pn : List (Addr × Obj)} {xe : Value → Shared → Prop} {W : WX} {tb : XK → TE} {p1 p2 : Pos}
    (I : Inv X pins σ H s) (L : LamX.LamS X.env.scope scope) (hbind : ∀ pm ctv : Value, bindArgs (PySem.W.kla_fn "<lambda>" (X.env.qual ++ "<lambda>") params body scope (cloFrom X.env.cells scope.names []) pm (.ref c') ctv) ⟨[], []⟩ = pure [])
    (tk : Takes ((cxOf C8.CX0 X.prog X.w X.K X.mg X.base Ng qg sg g cdg X.A X.stack s H C8.E0).tr pn xe) W) (hr : Room (k + 1) (X.A.deeper (envOfC qg sg s.heap.objs.size g cdg)))
    (hbody : ∀ (E : XK) (s1 : Shared) (H1 : Hp), Room k ((X.A.deeper (envOfC qg sg s.heap.objs.size g cdg)).deeper (LamX.lamEnv X scope s1.heap.objs.size f c')) →
      PE (LamX.lamCx X (X.A.deeper (envOfC qg sg s.heap.objs.size g cdg)) (envOfC qg sg s.heap.objs.size g cdg :: X.stack) s1 H1 E scope f c') body (tb E))
    (hN : Ng[i]? = some a) (hv : Vis sg a) (hd : (a == ("__debug__" : Str)) = false := by decide) (hcd : (a == ("__classdict__" : Str)) = false := by decide) :
    PE ((cxOf C8.CX0 X.prog X.w X.K X.mg X.base Ng qg sg g cdg X.A X.stack s H C8.E0).tr pn xe) (.Call (.Name a p1) [] [] p2)
      (fun σZ HZ Q => ∃ E : XK, (∀ cls d H', E cls d H' → W cls d σZ H') ∧ σZ[i]? = some (some (.ref f)) ∧ HZ f = some (lamO X params body scope f c') ∧ HZ c' = some (LamX.CodeO c' (X.env.qual ++ "<lambda>")) ∧ tb E σ HZ Q) := by
  refine ⟨fun pZ sZ σZ HZ Q IZ ⟨E, hE, slot, atf, atc, ht⟩ => ?_⟩
  refine wpAny_Call_Name_kw (thn ((pe_var (pos := p1) (i := i) hN hv hd hcd).run pZ sZ σZ HZ (fun v H1 => v = .ref f ∧ H1 = HZ) IZ ⟨.ref f, slot, rfl, rfl⟩) fun u s1 ⟨v, H1, I1, r1, ev, eH⟩ => ?_)
  subst ev
  rw [eH] at I1
  cases (show u = Value.ref f from r1)
  obtain ⟨⟨pm, ctv, of1⟩, _, _⟩ := I1.hok f _ atf
  obtain ⟨⟨oc, vs, t, hoc, hdc, hvc⟩, _, _⟩ := I1.hok c' _ atc
  have un : Un (frs X.stack) [] H HZ s.heap s1.heap := I1.base
  have run : codeAny (model X.prog X.w) (X.A.deeper (envOfC qg sg s.heap.objs.size g cdg)) (.call (.ref f) ⟨[], []⟩) (CR (L2.CX X.prog X.w) (envOfC qg sg s.heap.objs.size g cdg :: X.stack) X.prog X.w HZ s1 Q E) s1 := by
    refine PySem.W.kla_callFunE hr.depth of1 rfl L.co L.gen rfl ⟨c', oc, vs, t, rfl, hoc, hdc, hvc⟩ ?_
    rw [hbind]
    refine wpAny_pure (wpAny_newFunctionEnv (fun y hy => (L.own y hy).2) (fun y hy => absurd hy (by simp)) (fun h₁ hns hsb => ⟨I1.nolimit.fresh _ hsb, ?_⟩) L.kind)
    have kp : ∀ b o, s1.heap.get? b = some o → h₁.get? b = some o := fun b o e => hsb.extBut b o (Nat.ne_of_lt (Heap.lt_size e)) (Heap.get?_push_of_some _ e)
    have J : Inv (LamX.lamCx X (X.A.deeper (envOfC qg sg s.heap.objs.size g cdg)) (envOfC qg sg s.heap.objs.size g cdg :: X.stack) s1 HZ E scope f c') [] σ HZ { s1 with heap := h₁, toks := s1.toks + ([] : List (Str × Value)).length } :=
      LamX.lam_start2 I L I1.env0 hr.hd un hns kp
    exact PySem.W.kla_codeExpr (wpAny_mono ((hbody E s1 HZ (hr.deeper _)).run [] _ _ HZ Q J ht) (fun v s' ⟨w', H', J', rv, q⟩ => ⟨w', H', J'.os, J'.bare, J'.base, J'.hok, rv, q⟩) fun _ _ z => z)
  refine PySem.W.callWith_F0 ⟨_, _, _, _, of1⟩ (wpAny_call (codeAny_mono run fun r s' hq => ?_))
  cases r with
  | error e =>
    obtain ⟨a0, B, H', cls, d, z1, z2, z3, z4, z5, z6, z7, z8⟩ := (show L2.CX X.prog X.w _ HZ s1 E e s' from hq)
    exact passAt tk σZ pZ HZ s1 e s' I1 ⟨a0, B, H', cls, d, z1, z2, z3, z4, z5, z6, z7, hE _ _ _ z8⟩
  | ok fl =>
    cases fl with
    | ret u => exact I1.after hq
    | next => exact False.elim hq
    | brk => exact False.elim hq
    | cont => exact False.elim hq
end
/-- one of the lambdas: its text in X, its mirror -/
def LamJ (X : Cx) (k : Nat) (O : Addr → Addr → HO) (mb : MX) : Prop := ∃ (params : Arguments) (body : Expr) (scope : Scope), O = lamO X params body scope ∧ LamX.LamS X.env.scope scope ∧
  (∀ (q : Str) (cl : List (Str × Addr)) (pm cv ctv : Value), bindArgs (PySem.W.kla_fn "<lambda>" q params body scope cl pm cv ctv) ⟨[], []⟩ = pure []) ∧
  ∀ (A : Around) (outer : List PySem.Env) (s : Shared) (H : Hp) (E : XK) (f c' : Addr), Room k (LamX.lamCx X A outer s H E scope f c').A → (LamX.lamCx X A outer s H E scope f c').A.guards = some [] →
    Takes (LamX.lamCx X A outer s H E scope f c') (fun cls d _ H => E cls d H) → ME E (LamX.lamCx X A outer s H E scope f c') body mb
/-- the text of _law_caught -/
def caughtB (R : Str) (j : Nat) (b1 b2 b3 p1 p2 p3 p4 p5 p6 p7 p8 p9 r1 r2 : Pos) : List Stmt :=
  [.Assign [.Name "caught" b1] (.Constant .none j b2) b3, .Try [.Expr (.Call (.Name "work" p1) [] [] p2) p3] [.ExceptHandler (some (.Name R p4)) (some "error") [.Assign [.Name "caught" p5] (.Name "error" p6) p7] p8] [] [] p9, .Return (some (.Name "caught" r1)) r2]
abbrev caughtN : List Str := ["work", "caught", "error"]
/-- what a lambda's run wishes of the errors -/
def wErr (K : PySem.W.Frag) (CR : Addr) (Q : VK) : XK := fun cls d H' => ∃ Ca, cls = .ref Ca ∧ PySem.W.exmOne K cls (.ref CR) = some true ∧ ∀ a, H' a = none → Q (.ref a) (upd H' a (ExK Ca d a))
section
variable {X : Cx}
theorem pe_caught {R : Str} {j : Nat} {b1 b2 b3 p1 p2 p3 p4 p5 p6 p7 p8 p9 r1 r2 : Pos} {g Cr : Addr} {k : Nat} {pg : Arguments} {sg : Scope} {dV kV doc pm cdv ct oc : Value} {an od : Option Addr} {osl : Array (Option Value)} {x : Str} {e : Expr} {te : TE} {p pos : Pos} {mbs : List (Addr → Addr → HO)} {tbs : Nat → XK → TE} (tbs_ok : ∀ n E σ H (Q Q' : VK), tbs n E σ H Q → (∀ v H', Q v H' → Q' v H') → tbs n E σ H Q')
    (hg : Gl X x) (hm : X.mg x = some (.ref g)) (hk : PySem.W.keepIn X.K (.ref g) = true)
    (lk : X.K.lookup g = some ⟨oc, od, .func (PySem.W.fnOf x x pg (caughtB R j b1 b2 b3 p1 p2 p3 p4 p5 p6 p7 p8 p9 r1 r2) sg dV kV doc pm an cdv ct), osl⟩) (hcg : PySem.W.codeIn X.K cdv x = true)
    (hb : L2.Binds X.K (PySem.W.fnOf x x pg (caughtB R j b1 b2 b3 p1 p2 p3 p4 p5 p6 p7 p8 p9 r1 r2) sg dV kV doc pm an cdv ct) ["work"] []) (Sg : FnScope caughtN ["work"] sg)
    (hgR : sg.names.lookup R = some .globalImplicit) (hmR : X.mg R = some (.ref Cr)) (hdR : (R == ("__debug__" : Str)) = false)
    (l1 : sg.names.lookup ("work" : Str) = some .local) (l2 : sg.names.lookup ("caught" : Str) = some .local) (l3 : sg.names.lookup ("error" : Str) = some .local)
    (hr : Room (k + 2) X.A) (hgd : X.A.guards = some []) (he : PE X e te)
    (J : ∀ n O, mbs[n]? = some O → ∃ params body scope, O = lamO X params body scope ∧ LamX.LamS X.env.scope scope ∧
      (∀ (q : Str) (cl : List (Str × Addr)) (pm cv ctv : Value), bindArgs (PySem.W.kla_fn "<lambda>" q params body scope cl pm cv ctv) ⟨[], []⟩ = pure []) ∧
      ∀ (A : Around) (outer : List PySem.Env) (s : Shared) (H : Hp) (E : XK) (f c' : Addr), Room k (LamX.lamCx X A outer s H E scope f c').A → (LamX.lamCx X A outer s H E scope f c').A.guards = some [] →
        Takes (LamX.lamCx X A outer s H E scope f c') (fun cls d _ H => E cls d H) → PE (LamX.lamCx X A outer s H E scope f c') body (tbs n E))
    (hs : starEach [e] X.env = (false, eval e X.env) :: starEach [] X.env := by rfl) (hpl : (backTo pos (starEach [] X.env)).any (·.1) = false := by rfl) (hdb : (x == ("__debug__" : Str)) = false := by decide) :
    PE X (.Call (.Name x p) [e] [] pos) (fun σ H Q => te σ H fun v H1 => ∃ n O f c', v = .ref f ∧ mbs[n]? = some O ∧ H1 f = some (O f c') ∧ H1 c' = some (LamX.CodeO c' (X.env.qual ++ "<lambda>")) ∧
      tbs n (wErr X.K Cr Q) σ H1 fun _ H2 => Q .non H2) := by
  refine ⟨fun pins s σ H Q I h => ?_⟩
  refine wpAny_Call_Name_kw (ld_glob I hg hm ?_ hdb)
  refine PySem.W.callWith_K (h₀ := X.base) I.ok.mod.kin hk ?_ hs hpl
  rw [hs]
  show wpAny _ _ (spliced ((false, eval e X.env) :: backTo pos (starEach [] X.env))) _ _ s
  refine Calls.spliced_cons (thn (he.run pins s σ H _ I h) fun u s1 ⟨v, H1, I1, r1, n, O, f, c', ev, hn, hf, hc, ht⟩ => Calls.spliced_nil ⟨I1.kIn, ?_⟩)
  subst ev
  cases (show u = Value.ref f from r1)
  obtain ⟨params, body, scope, eO, L, hbi, hbd⟩ := J n O hn
  subst eO
  have rc : codeAny (model X.prog X.w) X.A (.call (.ref g) ⟨[.ref f], []⟩) (CR C8.CX0 X.stack X.prog X.w H1 s1 Q C8.E0) s1 := by
    refine LamX.run_ofS (N := caughtN) (ps := ["work"]) (us := [.ref f]) (vs := [.ref f]) lk hcg Sg hr I1.env0 (hb s1 [.ref f] I1.kIn rfl) (.cons rfl .nil) rfl fun hr' => ?_
    refine ⟨_, pss_cons (ps_set (i := 1) Sg.nd rfl (.inl l2) pe_non) (pss_cons (ps_keep (i := 2) (c := .ref Cr) (Wout := fun _ _ _ _ => False) (ts := fun a _ _ => tAsg (tVar 2) (gName 1))
      (tb := fun W D σZ HZ => ∃ E : XK, (∀ cls d H', E cls d H' → W cls d σZ H') ∧ σZ[0]? = some (some (.ref f)) ∧ HZ f = some (lamO X params body scope f c') ∧ HZ c' = some (LamX.CodeO c' (X.env.qual ++ "<lambda>")) ∧ tbs n E σ HZ fun _ H2 => D.nx σZ H2)
      rfl rfl rfl Sg.nd rfl l3 ⟨hgR, hdR, .inl hmR⟩ LamX.takes0 (fun W pn xe tk _ => pss_one ?_) (fun a oe cls d pn _ _ => pss_one (ps_set (i := 1) Sg.nd rfl (.inl l2) (pe_var (i := 2) rfl (.inl l3)) (by rfl) (.inr l2)))) (pss_one (ps_ret (pe_var (i := 1) rfl (.inl l2))))), ?_⟩
    · exact ps_expr (pos := p3) (pe_run (p1 := p1) (p2 := p2) (i := 0) (a := "work") (tb := tbs n) I1 L (hbi _ _ · _ ·) tk hr' (fun E s2 H2 hr2 => hbd _ _ s2 H2 E f c' hr2 hgd (takes_of rfl rfl rfl rfl)) rfl (.inl l1))
    · exact ⟨wErr X.K Cr Q, fun cls d H' ⟨Ca, e1, e2, e3⟩ => ⟨true, Ca, e1, e2, fun _ a na => ⟨.ref a, rfl, .ref a, rfl, e3 a na⟩, fun z => nomatch z⟩, rfl, hf, hc, tbs_ok n _ _ _ _ _ ht fun _ H2 q => ⟨.non, rfl, q⟩⟩
  refine wpAny_call (codeAny_mono rc fun r s2 hq => ?_)
  cases r with
  | error e => exact (show False from hq).elim
  | ok fl =>
    cases fl with
    | ret u => exact I1.after hq
    | next => exact False.elim hq
    | brk => exact False.elim hq
    | cont => exact False.elim hq
end
def envD (env : MEnv) : MEnv := env.map fun w => match w with
  | some (.d x) => some (.d x)
  | _ => none
/-- what follows from a mirror's words -/
def mCl (m : MX) : MX := fun env S Q E => ∃ Q0 E0, m env S Q0 E0 ∧ (∀ w S', Q0 w S' → Q w S') ∧ ∀ x, E0 x → E x
theorem mono_Cl (m : MX) : MonoX (mCl m) := fun _ _ _ _ _ _ h hx ⟨Q0, E0, a, b, c⟩ => ⟨Q0, E0, a, fun w S z => h w S (b w S z), fun x z => hx x (c x z)⟩
theorem ME.cl {E : XK} {X : Cx} {e : Expr} {m : MX} (h : ME E X e m) : ME E X e (mCl m) :=
  ⟨PE.imp h.pe fun σ H Q ⟨g, B0, ρ, env, S, R, N, Q0, E0, a, b, c⟩ => ⟨g, B0, ρ, env, S, R, N, h.mono _ _ _ _ _ _ b c a⟩, mono_Cl m⟩
def mNever : MX := fun _ _ _ _ => False
def mCaught (errs : List Str) (lm : Nat → Addr → Addr → HO) (q : Str) (mbs : List MX) (m : MX) : MX := fun env S Q E => m env S (fun w S1 => ∃ n mb, w = .d (.act n (lm n) q) ∧ mbs[n]? = some mb ∧
  mCl mb (envD env) [] (fun _ _ => Q (.d .non) S1) (fun x => ∃ c fs, x = .exc c fs ∧ c ∈ errs ∧ Q (.d x) S1)) E
section
variable {C : Cxt} {g g' : Gh} {B0 : Addr → Prop} {ρ : List Addr} {S : Sto} {H H' : Hp} {env : MEnv} {σ : L2.St}
theorem EnvR.data (N : EnvR C g (Bad g B0 ρ S) ρ H env σ) : EnvR C g (Bad g (B0c g B0 ρ S) [] []) [] H (envD env) σ := by
  refine ⟨by unfold envD; rw [List.length_map]; exact N.1, fun i w hw => ?_⟩
  unfold envD at hw
  rw [List.getElem?_map] at hw
  cases h : env[i]? with
  | none => rw [h] at hw; cases hw
  | some o =>
    rw [h] at hw
    cases o with
    | none => cases hw
    | some u =>
      cases u with
      | ref j => cases hw
      | d x =>
        cases hw
        obtain ⟨v, h1, h2⟩ := N.2 i _ h
        exact ⟨v, h1, RV.mono (Up.weak fun b z => bad_call.mp z) h2⟩
theorem XExt.toExt {ρ' : List Addr} {S' : Sto} (e : XExt g [] [] H g' H') : Ext g B0 [] [] H g' [] [] H' := ⟨e.imm, e.keep, fun b o h n z => e.own b o h n (Own.nil.mp z), e.gh, ⟨[], rfl⟩⟩
end
section
variable {E : XK} {X : Cx}
theorem me_caught {R : Str} {j : Nat} {b1 b2 b3 p1 p2 p3 p4 p5 p6 p7 p8 p9 r1 r2 : Pos} {g Cr : Addr} {k : Nat} {pg : Arguments} {sg : Scope} {dV kV doc pm cdv ct oc : Value} {an od : Option Addr} {osl : Array (Option Value)} {x : Str} {e : Expr} {m : MX} {p pos : Pos} {errs : List Str} {lm : Nat → Addr → Addr → HO} {mbs : List MX}
    (hm : X.mg x = some (.ref g)) (hk : PySem.W.keepIn X.K (.ref g) = true)
    (lk : X.K.lookup g = some ⟨oc, od, .func (PySem.W.fnOf x x pg (caughtB R j b1 b2 b3 p1 p2 p3 p4 p5 p6 p7 p8 p9 r1 r2) sg dV kV doc pm an cdv ct), osl⟩) (hcg : PySem.W.codeIn X.K cdv x = true)
    (hb : L2.Binds X.K (PySem.W.fnOf x x pg (caughtB R j b1 b2 b3 p1 p2 p3 p4 p5 p6 p7 p8 p9 r1 r2) sg dV kV doc pm an cdv ct) ["work"] []) (Sg : FnScope caughtN ["work"] sg)
    (hgR : sg.names.lookup R = some .globalImplicit) (hmR : X.mg R = some (.ref Cr)) (hdR : (R == ("__debug__" : Str)) = false)
    (l1 : sg.names.lookup ("work" : Str) = some .local) (l2 : sg.names.lookup ("caught" : Str) = some .local) (l3 : sg.names.lookup ("error" : Str) = some .local)
    (hr : Room (k + 2) X.A) (hgd : X.A.guards = some []) (hx : ∀ c ∈ errs, ∀ Ca, X.mg c = some (.ref Ca) → PySem.W.exmOne X.K (.ref Ca) (.ref Cr) = some true) (he : ME E X e m)
    (J : ∀ n mb, mbs[n]? = some mb → LamJ X k (lm n) mb)
    (hg : Gl X x := by rfl) (hs : starEach [e] X.env = (false, eval e X.env) :: starEach [] X.env := by rfl) (hpl : (backTo pos (starEach [] X.env)).any (·.1) = false := by rfl) (hdb : (x == ("__debug__" : Str)) = false := by decide) :
    ME E X (.Call (.Name x p) [e] [] pos) (mCaught errs lm (X.env.qual ++ "<lambda>") mbs m) := by
  refine ⟨PE.imp (pe_caught (mbs := (List.range mbs.length).map lm) (tbs := fun n E => tM (ctx X) E (mCl ((mbs[n]?).getD mNever))) (fun n E σ H Q Q' ⟨g, B0, ρ, env, S, R, N, z⟩ k => ⟨g, B0, ρ, env, S, R, N, mono_Cl _ _ _ _ _ _ _ (fun w S' y g' ρ' H' v R' e' r' => k _ _ (y g' ρ' H' v R' e' r')) (fun _ y => y) z⟩)
    hg hm hk lk hcg hb Sg hgR hmR hdR l1 l2 l3 hr hgd he.pe (fun n O hO => ?_) hs hpl hdb) fun σ H Q ⟨g, B0, ρ, env, S, R, N, z⟩ => ?_, fun env S Q Q' E E' h hx z => ?_⟩
  · rw [List.getElem?_map] at hO
    cases h : (List.range mbs.length)[n]? with
    | none => rw [h] at hO; cases hO
    | some i =>
      rw [h] at hO
      cases hO
      have hi := List.getElem?_eq_some_iff.mp h
      obtain ⟨hl, ei⟩ := hi
      rw [List.getElem_range] at ei
      subst ei
      rw [List.length_range] at hl
      obtain ⟨params, body, scope, eO, L, hbi, hbd⟩ := J n _ (List.getElem?_eq_getElem hl)
      refine ⟨params, body, scope, eO, L, hbi, fun A outer s H E f c' h1 h2 h3 => ?_⟩
      rw [List.getElem?_eq_getElem hl]
      exact (hbd A outer s H E f c' h1 h2 h3).cl.pe
  · refine tM.go he.mono R N z (fun _ y => y) fun w S1 ⟨n, mb, ew, hn, q⟩ g1 ρ1 H1 v1 R1 e1 rv => ?_
    subst ew
    have hnl := (List.getElem?_eq_some_iff.mp hn).1
    cases (show RV _ _ _ _ (.act n (lm n) _) v1 from rv) with
    | @act _ _ _ f c' hf nb hc =>
      refine ⟨n, lm n, f, c', rfl, by rw [List.getElem?_map, List.getElem?_range hnl]; rfl, hf, hc, ?_⟩
      rw [hn]
      refine ⟨g1, B0c g1 B0 ρ1 S1, [], envD env, [], R1.call, (N.ext e1).data, mono_Cl mb _ _ _ _ _ _ (fun w S' y g' ρ' H' v R' e' r' => ?_) (fun x ⟨c, fs, ex, hce, y⟩ => ?_) q⟩
      · obtain ⟨R2, e2⟩ := R1.back R'.nil e'.nil
        exact y g' ρ1 H' .non R2 (e1.trans e2) RV.non
      · subst ex
        intro g' H' cls d R' xe rx
        have fin : ∀ {Ca : Addr}, X.mg c = some (.ref Ca) → (∀ a, H' a = none → ∀ B, (∀ b, B b → Bad g' (B0c g1 B0 ρ1 S1) [] [] b) → RV (ctx X) g' B (upd H' a (ExK Ca d a)) (.exc c fs) (.ref a)) → cls = .ref Ca → wErr X.K Cr Q cls d H' := fun {Ca} hC mk ecl => by
          refine ⟨Ca, ecl, by rw [ecl]; exact hx c hce Ca hC, fun a na => ?_⟩
          obtain ⟨R3, e3, nb3⟩ := R'.new (o := ExK Ca d a) na
          obtain ⟨R4, e4⟩ := R1.back R3 ((XExt.toExt (ρ' := []) (S' := []) xe).trans e3)
          exact y g' ρ1 _ (.ref a) R4 (e1.trans e4) (mk a na _ fun b z => bad_back z)
        cases rx with
        | exc0 hC => exact fin hC (fun a na B hB => .exc0 hC upd_same fun z => R'.newBad na (hB a z)) rfl
        | exc1 hC hd rf => exact fin hC (fun a na B hB => .exc1 hC upd_same (fun z => R'.newBad na (hB a z)) (by rw [upd_ne (ne_of_none hd na)]; exact hd) (RFs.mono (Up.weak hB) (RFs.mono (R'.new (o := ExK _ _ a) na).2.1.up rf))) rfl
  · refine he.mono _ _ _ _ _ _ (fun w S1 ⟨n, mb, ew, hn, q⟩ => ⟨n, mb, ew, hn, ?_⟩) hx z
    exact mono_Cl mb _ _ _ _ _ _ (fun _ _ y => h _ _ y) (fun x ⟨c, fs, a, b, y⟩ => ⟨c, fs, a, b, h _ _ y⟩) q
end
end RW
/-! RwExv: errors as values: isinstance, their field; a def called by a local name. -/
namespace RW
open PySem PySem.Spec PyProof.Rows L2
variable [Tbl]
/-- a value's class: a type, or the class of an error -/
inductive TyY (K : PySem.W.Frag) (H : Hp) : V → Value → Prop
  | x {v : V} {t : Value} : TyZ K H v t → TyY K H v t
  | e {a Ca : Addr} {d : Option Addr} : H a = some (ExK Ca d a) → L2.ExcC K Ca → (∀ dd, d = some dd → ∃ fvs, H dd = some (.xd fvs)) → TyY K H (.ref a) (.ref Ca)
theorem exk_inst {X : Cx} {pins : List (Addr × Obj)} {σ : L2.St} {H : Hp} {s : Shared} {a Ca : Addr} {d : Option Addr} (I : Inv X pins σ H s) (h : H a = some (ExK Ca d a)) (hd : ∀ dd, d = some dd → ∃ fvs, H dd = some (.xd fvs)) :
    ∃ oe od, PySem.W.InstAt s.heap a oe Ca od ∧ (d = none → od = none) ∧ ∀ dd, d = some dd → ∃ o, od = some o ∧ s.heap.get? dd = some o := by
  obtain ⟨⟨oe, vs, e1, e2, e3, e4⟩, _, _⟩ := I.hok a _ h
  have no : PySem.W.notCls oe = true := by unfold PySem.W.notCls; rw [e4] <;> rfl
  cases d with
  | none => exact ⟨oe, none, ⟨e1, e2, no, by rw [e3]; trivial⟩, (fun _ => rfl), (fun dd z => nomatch z)⟩
  | some dd =>
    obtain ⟨fvs, hx⟩ := hd dd rfl
    obtain ⟨mA, hns, _⟩ := I.hok dd _ hx
    obtain ⟨od, ho, _⟩ := lookIn_ns hns
    exact ⟨oe, some od, ⟨e1, e2, no, by rw [e3]; exact ho⟩, (fun z => nomatch z), fun dd' z => by cases z; exact ⟨od, rfl, ho⟩⟩
theorem call_isY {X : Cx} : CallR X (.builtin "isinstance") (fun xs H Q => ∃ (x : V) (C : Addr) (t : Value) (b : Bool), xs = [x, .ref C] ∧ TyY X.K H x t ∧ PySem.W.kitOne X.K t (.ref C) = some b ∧ Q (.bl b) H) := by
  intro pins s σ H xs us Q I r h
  obtain ⟨x, C, t, b, rfl, ty, e, q⟩ := h
  obtain ⟨u1, u2, rfl, r1, r2⟩ := vals2 r
  cases (show u2 = Value.ref C from r2)
  cases ty with
  | x ty =>
    obtain ⟨P, Z, p, hx⟩ := kit_ofZ I r1 ty
    exact PySem.W.kia_one Z I.kIn p e hx fun tk => ⟨.bl b, H, I.tok tk, rfl, q⟩
  | @e a Ca d ha hE hd =>
    cases (show u1 = Value.ref a from r1)
    obtain ⟨oe, od, J, _⟩ := exk_inst I ha hd
    obtain ⟨cd, hc, _⟩ := PySem.W.any_some hE.hd
    exact PySem.W.kia_one (PySem.W.kitx_exc (by rw [hc]; rfl) hE.hg hE.hk hE.hs hE.ha hE.hn hE.ht hE.hm) I.kIn J e (fun z => nomatch z) fun tk => ⟨.bl b, H, I.tok tk, rfl, q⟩
abbrev baseTs : List String := ["NoneType", "bool", "int", "str", "tuple", "list", "dict"]
/-- what the written part says of isinstance with the class n -/
structure IsC (K : PySem.W.Frag) (mg : Str → Option Value) (es : List Str) (top n : Str) (Cn : Addr) : Prop where
  g : mg n = some (.ref Cn)
  ty : ∀ T ∈ baseTs, PySem.W.kitOne K (.type T) (.ref Cn) = some false
  ex : ∀ c ∈ es, ∀ Ca, mg c = some (.ref Ca) → L2.ExcC K Ca ∧ PySem.W.kitOne K (.ref Ca) (.ref Cn) = some (c == n || n == top)
def isCD (top n : Str) (d : D) : Bool := match d with
  | .exc c _ => c == n || n == top
  | _ => false
def okIs (es : List Str) (d : D) : Prop := match d with
  | .exc c _ => c ∈ es
  | _ => (tyNm d).isSome = true
def mIsC (es : List Str) (top n : Str) (m : MX) : MX := fun env S Q E => m env S (fun w S1 => ∃ d, rd S1 w = some d ∧ okIs es d ∧ Q (.d (.bl (isCD top n d))) S1) E
theorem tyNm_base {d : D} {T : String} (h : tyNm d = some T) : T ∈ baseTs := by
  cases d <;> first | (simp [tyNm] at h; done) | (cases h; simp [baseTs])
section
variable {E : XK} {X : Cx}
theorem me_isC {es : List Str} {top n : Str} {Cn : Addr} {a : Expr} {ma : MX} {p p2 pos : Pos} (hC : IsC X.K X.mg es top n Cn) (hm : X.mg "isinstance" = none) (ha : ME E X a ma) (hg : Gl X "isinstance" := by rfl) (hg2 : Gl X n := by rfl) (hdb : (n == ("__debug__" : Str)) = false := by decide)
    (he : starEach [a, .Name n p2] X.env = (false, eval a X.env) :: starEach [.Name n p2] X.env := by rfl) (he2 : starEach [.Name n p2] X.env = (false, eval (.Name n p2) X.env) :: starEach [] X.env := by rfl)
    (hpl : (backTo pos (starEach [.Name n p2] X.env)).any (·.1) = false := by rfl) : ME E X (.Call (.Name "isinstance" p) [a, .Name n p2] [] pos) (mIsC es top n ma) := by
  refine ⟨PE.imp (pe_callB call_isY hg hm boot_isinstance (pa_cons ha.pe (pa_cons (pe_glob (v := .ref Cn) hg2 hC.g rfl hdb) pa_nil he2) he) (by decide) (by decide) he hpl) fun σ H Q ⟨g, B0, ρ, env, S, R, N, q⟩ => ?_,
    fun env S Q Q' E E' h hx q => ha.mono _ _ _ _ _ _ (fun w S' ⟨x, a, b, z⟩ => ⟨x, a, b, h _ _ z⟩) hx q⟩
  refine tM.go ha.mono R N q (fun _ z => z) fun w S1 ⟨d, hd, hs, q1⟩ g1 ρ1 H1 v1 R1 e1 r1 => ?_
  have rr := R1.rd r1 hd
  have base : ∀ {U : String}, tyNm d = some U → isCD top n d = false → TyY X.K H1 v1 (.type U) ∧ PySem.W.kitOne X.K (.type U) (.ref Cn) = some (isCD top n d) := fun {U} ht hf => ⟨.x (rr.tyx ht R1.dr), by rw [hf]; exact hC.ty U (tyNm_base ht)⟩
  have all : ∃ t, TyY X.K H1 v1 t ∧ PySem.W.kitOne X.K t (.ref Cn) = some (isCD top n d) := by
    cases d with
    | exc c fs =>
      have rv := rr.toRV fun _ => by simp
      cases rv with
      | exc0 hm h nb => exact ⟨_, .e h (hC.ex c hs _ hm).1 (fun _ z => nomatch z), (hC.ex c hs _ hm).2⟩
      | exc1 hm h nb hx rf => exact ⟨_, .e h (hC.ex c hs _ hm).1 (fun dd z => by cases z; exact ⟨_, hx⟩), (hC.ex c hs _ hm).2⟩
    | non => exact ⟨_, base rfl rfl⟩
    | bl b => exact ⟨_, base rfl rfl⟩
    | int b => exact ⟨_, base rfl rfl⟩
    | str b => exact ⟨_, base rfl rfl⟩
    | tup b => exact ⟨_, base rfl rfl⟩
    | lst b => exact ⟨_, base rfl rfl⟩
    | dic b => exact ⟨_, base rfl rfl⟩
    | drw => exact ⟨_, base rfl rfl⟩
    | _ => simp [okIs, tyNm] at hs
  obtain ⟨t, ty, kk⟩ := all
  exact ⟨v1, Cn, t, _, rfl, ty, kk, q1 _ _ _ _ R1 e1 (RV.bl _)⟩
/-- e.fld of an error -/
def mFldE (es : List Str) (fld : Str) (m : MX) : MX := fun env S Q E => m env S (fun w S1 => ∃ c fs d, w = .d (.exc c fs) ∧ c ∈ es ∧ fs.lookup fld = some d ∧ Q (.d d) S1) E
theorem RFs.look {C : Cxt} {g : Gh} {B : Addr → Prop} {H : Hp} {f : Str} {d : D} : ∀ {fs : List (Str × D)} {fvs : List (Str × V)}, RFs C g B H fs fvs → fs.lookup f = some d → ∃ v, fvs.lookup f = some v ∧ RV C g B H d v
  | _, _, .nil, e => by cases e
  | _, _, .cons (n := n) h r, e => by
    rw [List.lookup_cons] at e ⊢
    cases hn : f == n with
    | true => rw [hn] at e; cases e; exact ⟨_, rfl, h⟩
    | false => rw [hn] at e; exact RFs.look r e
theorem me_fldE {es : List Str} {fld : Str} {a : Expr} {ma : MX} {pos : Pos} (T : ∀ c ∈ es, ∃ Ca fI msg, ErrTxt X.prog X.K X.mg c Ca fI fld msg) (ha : ME E X a ma) (hb : attributeBase a fld X.env (eval a X.env) = eval a X.env := by rfl) : ME E X (.Attribute a fld pos) (mFldE es fld ma) := by
  refine ⟨⟨fun pins s σ H Q I ⟨g, B0, ρ, env, S, R, N, q⟩ => ?_⟩, fun env S Q Q' E E' h hx q => ha.mono _ _ _ _ _ _ (fun w S' ⟨c, fs, d, a, b, e, z⟩ => ⟨c, fs, d, a, b, e, h _ _ z⟩) hx q⟩
  refine attr_of hb (thn (ha.pe.run pins s σ H (fun v1 H1 => ∃ a c v, v1 = .ref a ∧ c ∈ es ∧ ∃ Ca dd fvs, X.mg c = some (.ref Ca) ∧ H1 a = some (ExK Ca (some dd) a) ∧ H1 dd = some (.xd fvs) ∧ fvs.lookup fld = some v ∧ Q v H1) I ?_) fun u s1 ⟨v1, H1, I1, r1, a1, c, v, ev, hc, Ca, dd, fvs, hm, hx, hxd, hl, q1⟩ => ?_)
  · refine tM.go ha.mono R N q (fun _ z => z) fun w S1 ⟨c, fs, d, ew, hc, hf, q1⟩ g1 ρ1 H1 v1 R1 e1 r1 => ?_
    subst ew
    cases (show RV _ _ _ _ (.exc c fs) v1 from r1) with
    | exc0 hm h nb => cases hf
    | exc1 hm h nb hx rf =>
      obtain ⟨v, hv, rv⟩ := rf.look hf
      exact ⟨_, c, v, rfl, hc, _, _, _, hm, h, hx, hv, q1 _ _ _ _ R1 e1 rv⟩
  · subst ev
    cases (show u = Value.ref a1 from r1)
    obtain ⟨Ca', fI, msg, T1⟩ := T c hc
    have ec : Ca' = Ca := by
      have := T1.gC.symm.trans hm
      exact Value.ref.inj (Option.some.inj this)
    subst ec
    obtain ⟨oe, od, J, _, hod⟩ := exk_inst I1 hx (fun dd' z => by cases z; exact ⟨fvs, hxd⟩)
    obtain ⟨o, eo, ho⟩ := hod dd rfl
    subst eo
    obtain ⟨mA, hns, hr⟩ := (I1.hok dd _ hxd : ObjOk X.prog X.w H1 s1.heap dd (.xd fvs))
    obtain ⟨od', ho', hl'⟩ := lookIn_ns hns
    rw [ho] at ho'
    cases ho'
    obtain ⟨u, hu, ru⟩ := RelO.some_of (v := v) (o := mA fld) (by rw [← hl]; exact hr fld)
    exact HandSPX.exc_get I1.kIn J T1.ga T1.gg T1.exC (PySem.W.findObj_own T1.hdC T1.noN rfl (by rw [hl', hu])) (handed_of ru) ⟨v, H1, I1.tok _, ru, q1⟩
end
/-! ### x(e, ..), x a local name that holds a def of the module -/
def mCallV (i : Nat) (fs : List (Str × MF)) (t : MA) : MX := fun env S Q E => ∃ n m, env[i]? = some (some (.d (.gl n))) ∧ (n, m) ∈ fs ∧ t env S (fun ws S1 => ∃ ds, datas ws = some ds ∧ m ds (fun x => Q (.d x) S1) E) E
section
variable {E : XK} {X : Cx} {k n i : Nat} {x : Str} {e : Expr} {es : List Expr} {t : MA} {p pos : Pos} {fs : List (Str × MF)}
theorem me_callV (F : ∀ q ∈ fs, MonoF q.2 ∧ ∃ f fd ps, FnG X.prog X.w X.K X.mg X.base (L2.CX X.prog X.w) k f fd ps (spF (ctx X) n q.2) ∧ X.mg q.1 = some (.ref f) ∧ PySem.W.keepIn X.K (.ref f) = true ∧ Binds X.K fd ps []) (tk : Takes X (fun cls d _ H => E cls d H)) (hgd : X.A.guards = some []) (hr : Room k X.A)
    (ha : MAJ E X (e :: es) t) (hn : (e :: es).length = n := by rfl) (hN : X.N[i]? = some x := by rfl) (hv : Vis X.env.scope x := by first | exact Or.inl rfl | exact Or.inr (Or.inl rfl) | exact Or.inr (Or.inr rfl)) (hdb : (x == ("__debug__" : Str)) = false := by decide) (hcd : (x == ("__classdict__" : Str)) = false := by decide)
    (he : starEach (e :: es) X.env = (false, eval e X.env) :: starEach es X.env := by rfl) (hpl : (backTo pos (starEach es X.env)).any (·.1) = false := by rfl) : ME E X (.Call (.Name x p) (e :: es) [] pos) (mCallV i fs t) := by
  refine ⟨⟨fun pins s σ H Q I ⟨g, B0, ρ, env, S, R, N, nm, m, hw, hq, q⟩ => ?_⟩, fun env S Q Q' E E' h hx ⟨nm, m, a, b, q⟩ => ⟨nm, m, a, b, ha.mono _ _ _ _ _ _ (fun w S' ⟨ds, a, c⟩ => ⟨ds, a, (F _ b).1 _ _ _ _ _ (fun x z => h _ _ z) hx c⟩) hx q⟩⟩
  obtain ⟨mm, f, fd, ps, Ff, hm, hk, hb⟩ := F _ hq
  obtain ⟨v, hs, rv⟩ := N.2 i _ hw
  cases (show RV _ _ _ _ (.gl nm) v from rv) with
  | gl hm' =>
    have ef := hm.symm.trans hm'
    cases ef
    refine wpAny_Call_Name_kw (thn ((pe_var (pos := p) hN hv hdb hcd).run pins s σ H (fun v H1 => v = .ref f ∧ H1 = H) I ⟨.ref f, hs, rfl, rfl⟩) fun u s1 ⟨v, H1, I1, r1, ev, eH⟩ => ?_)
    subst ev
    rw [eH] at I1
    cases (show u = Value.ref f from r1)
    refine PySem.W.callWith_K (h₀ := X.base) I.ok.mod.kin hk (thn (ha.pa.run pos pins s1 σ H (fun vs H2 => spF (ctx X) n m vs H2 Q E) I1 ?_) fun us s2 ⟨vs, H2, I2, r, q2⟩ => ⟨I2.kIn, run_fnG (E := fun _ => E) Ff hgd hr hb (passAt tk σ) I2 r q2⟩) he hpl
    refine tMA.go ha.mono R N (ha.len _ _ _ _ q) (fun _ z => z) fun ws S1 ⟨hl, ds, hd, q1⟩ g1 ρ1 H1 vs R1 e1 r1 => ?_
    exact call_go mm (ctx X) (by rw [← Paired.len r1, hl]; exact hn) R1 (Paired.rws r1 hd) q1 (fun x z => z.ext e1) fun y z g' ρ' H' v R' e' r' => z g' ρ' H' v R' (e1.trans e') r'
end
end RW
/-! RwFn: a def by its body, told of the very context; comprehensions by their parts. -/
namespace RW
open PySem PySem.Spec PyProof.Rows L2
variable [Tbl]
/-- the body over the arguments, whatever the lambdas' marks -/
def mFnL (n : Nat) (b : (Nat → Addr → Addr → HO) → MS) : MF := fun ds Q E => ∀ lm, mFn n (b lm) ds Q E
abbrev cxD (P : Program) (w : World) (K : PySem.W.Frag) (mg : Str → Option Value) (base : Heap) (N : List Str) (qual : Str) (st : Stmt) (f : Addr) (cdv : Value) (A : Around) (outer : List PySem.Env) (s : Shared) (H : Hp) (E : XK) : Cx := cxOf (L2.CX P w) P w K mg base N qual (defScope st) f cdv A outer s H E
theorem fn_okC {P : Program} {w : World} {K : PySem.W.Frag} {mg : Str → Option Value} {base : Heap} {x qual : Str} {st : Stmt} {f : Addr} {fd : FuncData} {N ps : List Str} {k : Nat} {b : MS} (F : Fun K x qual st f fd) (Sc : FnScope N ps (defScope st))
    (hb : ∀ (cdv : Value) (A : Around) (outer : List PySem.Env) (s : Shared) (H : Hp) (E : XK), Room k (A.deeper (envOfC qual (defScope st) s.heap.objs.size f cdv)) → (A.deeper (envOfC qual (defScope st) s.heap.objs.size f cdv)).guards = some [] → MSs E (cxD P w K mg base N qual st f cdv A outer s H E) (defBody st) b) :
    FnG P w K mg base (L2.CX P w) (k + 1) f fd ps (spF ⟨K, mg, Tbl.tabs⟩ ps.length (mFn N.length b)) := by
  obtain ⟨oc, od, kV, doc, pm, an, cdv, ct, osl, rfl, lk, hcd⟩ := F.ex
  refine fnG_of lk hcd Sc (fun vs H Q E h => h.1) fun A outer s H vs Q E hr hgd h => ?_
  obtain ⟨hl, g, B0, ds, R, rs, hm⟩ := h
  have J := hb cdv A outer s H E hr hgd
  refine ⟨_, J.ps, g, B0, [], startM N.length ds, [], R, start_env rs, J.mono _ _ _ _ ?_ hm⟩
  exact ⟨fun _ _ z g' ρ' H' σ' R' e N' => z g' H' .non R'.nil e.nil .non, fun x z g' ρ' S' H' v R' e r => z g' H' v R'.nil e.nil r, fun _ _ z => z.elim, fun _ _ z => z.elim, fun _ z => z⟩
/-- tests of a comprehension -/
structure MTsJ (E : XK) (X : Cx) (ifs : List Expr) (m : MT) : Prop where
  pt : PTs X ifs (tMT (ctx X) E m)
  mono : MonoT m
theorem mts_nil {E : XK} {X : Cx} : MTsJ E X [] mYes := ⟨⟨fun pins s σ H Q I ⟨g, B0, ρ, env, S, R, N, q⟩ => pts_nil.run pins s σ H Q I (q g ρ H R Ext.refl)⟩, fun _ _ _ _ _ _ h _ q => h _ _ q⟩
theorem mts_one {E : XK} {X : Cx} {c : Expr} {m : MT} (h : MTJ E X c m) : MTsJ E X [c] m := ⟨pts_one h.pt, h.mono⟩
section
variable {E : XK} {X : Cx} {elt iter : Expr} {ifs : List Expr} {scope : Scope} {own : List (Str × Nat)} {mi : MI} {tt : MT} {te : MX} {v : Str} {vp : Pos} {i : Nat}
theorem lcj_name (hi : MIJ E X (.Name v vp) iter mi) (ok : BlkOk X.N X.env.scope scope own) (hN : X.N.Nodup) (ht : ∀ (s : Shared) (H : Hp) (C : Addr) (cl : List (Str × Addr)) (fp : List Addr), MTsJ E0' (X.blk s H scope (compEnvC scope cl C X.env) fp) ifs tt)
    (he : ∀ (s : Shared) (H : Hp) (C : Addr) (cl : List (Str × Addr)) (fp : List Addr), ME E0' (X.blk s H scope (compEnvC scope cl C X.env) fp) elt te)
    (hin : i ∈ own.map (·.2) := by first | exact List.mem_cons_self .. | decide) (hiN : X.N[i]? = some v := by rfl)
    (hx : ∀ (s : Shared) (H : Hp) (C : Addr) (cl : List (Str × Addr)) (fp : List Addr), Loc (X.blk s H scope (compEnvC scope cl C X.env) fp).env.scope v := by intro _ _ _ _ _; first | exact Or.inl rfl | exact Or.inr rfl)
    (hf : ∀ (s : Shared) (H : Hp) (C : Addr) (cl : List (Str × Addr)) (fp : List Addr), (X.blk s H scope (compEnvC scope cl C X.env) fp).fn v = true ∨ (X.blk s H scope (compEnvC scope cl C X.env) fp).env.scope.names.lookup v = some .local := by intro _ _ _ _ _; first | exact .inr rfl | exact .inl rfl) :
    LcJ E X elt (.Name v vp) iter ifs scope own mi (gN i) tt te where
  i := hi
  ok := ok
  g := by
    refine ⟨gName i, fun s H C cl fp => pg_name (i := i) hN hiN (hx s H C cl fp) (hf s H C cl fp), fun g B0 ρ S H env env' σ x u Q R N r e k => ?_⟩
    cases e
    refine k _ ⟨by rw [List.length_set], fun j hj => ?_⟩ (N.set i r)
    have hij : i ≠ j := fun z => hj (by rw [← z]; exact hin)
    rw [List.getElem?_set_ne hij]
  t := ⟨fun s H C cl fp => (ht s H C cl fp).pt, (ht X.s_0 X.H_0 0 [] []).mono⟩
  e := ⟨fun s H C cl fp => (he s H C cl fp).pe, (he X.s_0 X.H_0 0 [] []).mono⟩
end
end RW
/-! RwKw: calls by keywords; tuple(range(..)), list(..) that the store holds; a def's promise read for a law. -/
namespace RW
open PySem PySem.Spec PyProof.Rows L2
variable [Tbl]
def permG {α : Type} (idx : List Nat) (us ws : List α) : List α := if us.isEmpty then idx.filterMap (fun i => ws[i]?) else []
theorem permG_rel {F : V → Value → Prop} {vs zs : List V} {us ws : List Value} (idx : List Nat) (r : Paired F vs us) (rz : Paired F zs ws) : Paired F (permG idx vs zs) (permG idx us ws) := by
  cases r with
  | cons _ _ => exact .nil
  | nil =>
    show Paired F (idx.filterMap fun i => zs[i]?) (idx.filterMap fun i => ws[i]?)
    induction idx with
    | nil => exact .nil
    | cons i idx ih =>
      rw [List.filterMap_cons, List.filterMap_cons]
      cases h : zs[i]? with
      | none =>
        have h2 : ws[i]? = none := by
          rw [List.getElem?_eq_none_iff] at h ⊢
          rw [← Paired.len rz]
          exact h
        rw [h2]
        exact ih
      | some v =>
        obtain ⟨u, hu, ru⟩ := Paired.get rz h
        rw [hu]
        exact .cons ru ih
theorem RVs.perm {C : Cxt} {g : Gh} {B : Addr → Prop} {H : Hp} {ds : List D} {vs : List V} (idx : List Nat) (r : RVs C g B H ds vs) : RVs C g B H (idx.filterMap fun i => ds[i]?) (permG idx [] vs) := by
  show RVs C g B H (idx.filterMap fun i => ds[i]?) (idx.filterMap fun i => vs[i]?)
  induction idx with
  | nil => exact .nil
  | cons i idx ih =>
    rw [List.filterMap_cons, List.filterMap_cons]
    cases h : ds[i]? with
    | none =>
      have h2 : vs[i]? = none := by
        rw [List.getElem?_eq_none_iff] at h ⊢
        rw [← r.length]
        exact h
      rw [h2]
      exact ih
    | some v =>
      obtain ⟨u, hu, ru⟩ := r.get h
      rw [hu]
      exact .cons ru ih
structure MKJ (E : XK) (X : Cx) (kws : List Keyword) (m : MA) : Prop where
  pk : PK X kws (tMA (ctx X) E m)
  mono : MonoA m
theorem PK.imp {X : Cx} {e : List Keyword} {t t' : TA} (h : PK X e t) (i : ∀ σ H Q, t' σ H Q → t σ H Q) : PK X e t' := ⟨fun pos pins s σ H Q I q => h.run pos pins s σ H Q I (i σ H Q q)⟩
def mCallK (idx : List Nat) (m : MF) (t : MA) : MX := fun env S Q E => t env S (fun ws S1 => ∃ ds, datas ws = some ds ∧ m (idx.filterMap fun i => ds[i]?) (fun x => Q (.d x) S1) E) E
section
variable {E : XK} {X : Cx} {k n : Nat} {f : Addr} {fd : FuncData} {ps ks : List Str} {m : MF} {me : MX} {x : Str} {e : Expr} {kws : List Keyword} {t : MA} {p pos kpos : Pos} {nm : Option Str} {idx : List Nat}
theorem mk_nil : MKJ E X [] aNil := ⟨PK.imp pk_nil fun σ H Q ⟨g, B0, ρ, env, S, R, N, q⟩ => q g ρ H [] R Ext.refl .nil, fun _ _ _ _ _ _ h _ q => h _ _ q⟩
theorem mk_cons (he : ME E X e me) (ht : MKJ E X kws t) : MKJ E X (⟨nm, e, kpos⟩ :: kws) (aCons me t) := by
  refine ⟨PK.imp (pk_cons he.pe ht.pk) fun σ H Q ⟨g, B0, ρ, env, S, R, N, q⟩ => ?_, fun env S Q Q' E E' h hx q => he.mono _ _ _ _ _ _ (fun w S' z => ht.mono _ _ _ _ _ _ (fun ws S2 y => h _ _ y) hx z) hx q⟩
  refine tM.go he.mono R N q (fun _ z => z) fun w S1 q1 g1 ρ1 H1 v1 R1 e1 r1 => ?_
  exact tMA.go ht.mono R1 (N.ext e1) q1 (fun x z => z.ext e1) fun ws S2 q2 g2 ρ2 H2 vs R2 e2 r2 => q2 g2 ρ2 H2 (v1 :: vs) R2 (e1.trans e2) (.cons (r1.ext e2) r2)
theorem me_callK (F : FnG X.prog X.w X.K X.mg X.base (L2.CX X.prog X.w) k f fd ps (spF (ctx X) n m)) (mm : MonoF m) (tk : Takes X (fun cls d _ H => E cls d H)) (hgd : X.A.guards = some []) (hr : Room k X.A) (hm : X.mg x = some (.ref f)) (hk : PySem.W.keepIn X.K (.ref f) = true) (hb : KBinds X.K fd ps ks (permG idx) (permG idx)) (ha : MKJ E X kws t)
    (hn : ∀ ds Q E, m ds Q E → ds.length = n) (hg : Gl X x := by rfl) (hall : (backToKw pos (keywordEach kws X.env)).all (·.1.isSome) = true := by rfl) (hks : (backToKw pos (keywordEach kws X.env)).filterMap (·.1) = ks := by rfl) (hdb : (x == ("__debug__" : Str)) = false := by decide)
    (hpl : ((backTo pos (starEach [] X.env)).any (·.1) || (backToKw pos (keywordEach kws X.env)).any (·.1.isNone)) = false := by rfl) : ME E X (.Call (.Name x p) [] kws pos) (mCallK idx m t) := by
  refine ⟨PE.imp (pe_callKG F hgd hr hg hm hk hb (fun σ => passAt tk σ) ha.pk hall hks hdb hpl) fun σ H Q ⟨g, B0, ρ, env, S, R, N, q⟩ => ?_, fun env S Q Q' E E' h hx q => ha.mono _ _ _ _ _ _ (fun w S' ⟨ds, a, b⟩ => ⟨ds, a, mm _ _ _ _ _ (fun x z => h _ _ z) hx b⟩) hx q⟩
  refine tMA.go ha.mono R N q (fun _ z => z) fun ws S1 ⟨ds, hd, q1⟩ g1 ρ1 H1 vs R1 e1 r1 => ?_
  have rp := (Paired.rws r1 hd).perm idx
  exact call_go mm (ctx X) (by rw [← rp.length]; exact hn _ _ _ q1) R1 rp q1 (fun x z => z.ext e1) fun y z g' ρ' H' v R' e' r' => z g' ρ' H' v R' (e1.trans e') r'
theorem mFn_len {N : Nat} {b : MS} {n : Nat} : ∀ {m : MF}, (∀ ds Q E, m ds Q E → ds.length = n) → ∀ ds Q E, m ds Q E → ds.length = n := fun h => h
/-! list(x), tuple(range(..)) -/
def mListN (t : MX) : MX := fun env S Q E => t env S (fun w S1 => ∃ x, rd S1 w = some x ∧ isSeq x = true ∧ Q (.ref S1.length) (S1 ++ [.lst ((seqD x).map W.d)])) E
theorem RVs.paired {C : Cxt} {g : Gh} {B : Addr → Prop} {H : Hp} {ρ : List Addr} : ∀ {ds : List D} {vs : List V}, RVs C g B H ds vs → Paired (RW C g B ρ H) (ds.map W.d) vs
  | _, _, .nil => .nil
  | _, _, .cons h r => .cons h (RVs.paired r)
theorem me_listN {a : Expr} {ma : MX} (hm : X.mg "list" = none) (ha : ME E X a ma) (hg : Gl X "list" := by rfl) (he : starEach [a] X.env = (false, eval a X.env) :: starEach [] X.env := by rfl) (hpl : (backTo pos (starEach [] X.env)).any (·.1) = false := by rfl) : ME E X (.Call (.Name "list" p) [a] [] pos) (mListN ma) := by
  refine ⟨PE.imp (pe_callTy call_list_of hg hm boot_list (pa_cons ha.pe pa_nil he) (by decide) (by decide) he hpl) fun σ H Q ⟨g, B0, ρ, env, S, R, N, q⟩ => ?_, fun env S Q Q' E E' h hx q => ha.mono _ _ _ _ _ _ (fun w S' ⟨x, a, b, c⟩ => ⟨x, a, b, h _ _ c⟩) hx q⟩
  refine tM.go ha.mono R N q (fun _ z => z) fun w S1 ⟨x, ex, hq, q1⟩ g1 ρ1 H1 v1 R1 e1 r1 => ?_
  obtain ⟨p0, vs, ep, sq, rs⟩ := (R1.rd r1 ex).seq hq
  refine ⟨p0, vs, by rw [ep], sq, fun l hl => ?_⟩
  obtain ⟨R2, e2⟩ := R1.push (o := .lst ((seqD x).map W.d)) (u := .lst vs) hl rfl fun B b1 b2 => ⟨vs, upd_same, Paired.mapP (RVs.paired rs) fun w v q => q.mono ⟨fun b o a _ => by rw [upd_ne (ne_of_none a hl)]; exact a, fun b o a n => ⟨by rw [upd_ne (ne_of_none a hl)]; exact a, fun z => (b2 b z).elim n (ne_of_none a hl)⟩, .refl⟩ ⟨[l], rfl⟩⟩
  exact q1 g1 _ _ _ R2 (e1.trans e2) ⟨l, by rw [← R1.len]; simp, rfl⟩
def rgD (lo hi : Int) : List D := (List.range (hi - lo).toNat).map fun i => D.int (lo + (i : Nat))
def mTupRg (ma mb : MX) : MX := fun env S Q E => ma env S (fun w S1 => mb env S1 (fun u S2 => ∃ lo hi, w = .d (.int lo) ∧ u = .d (.int hi) ∧ RgOk lo hi ∧ Q (.d (.tup (rgD lo hi))) S2) E) E
theorem rg_rv {C : Cxt} {g : Gh} {B : Addr → Prop} {H : Hp} (lo hi : Int) : RVs C g B H (rgD lo hi) (rgV lo hi) := by
  unfold rgD rgV
  induction (List.range (hi - lo).toNat) with
  | nil => exact .nil
  | cons i r ih => exact .cons (.int _) ih
theorem me_tupRg {a b : Expr} {ma mb : MX} {p2 q : Pos} (hc : X.calm = true) (hm : X.mg "tuple" = none) (hm2 : X.mg "range" = none) (ha : ME E X a ma) (hb : ME E X b mb) (hg : Gl X "tuple" := by rfl) (hg2 : Gl X "range" := by rfl)
    (na : starEach [a, b] X.env = (false, eval a X.env) :: starEach [b] X.env := by rfl) (nb : starEach [b] X.env = (false, eval b X.env) :: starEach [] X.env := by rfl) (hp : (backTo q (starEach [b] X.env)).any (·.1) = false := by rfl)
    (n1 : starEach [.Call (.Name "range" p2) [a, b] [] q] X.env = (false, eval (.Call (.Name "range" p2) [a, b] [] q) X.env) :: starEach [] X.env := by rfl) :
    ME E X (.Call (.Name "tuple" p) [.Call (.Name "range" p2) [a, b] [] q] [] pos) (mTupRg ma mb) := by
  refine ⟨PE.imp (pe_tupRg hc hg hm (prg_2 hg2 hm2 ha.pe hb.pe na nb hp) n1) fun σ H Q ⟨g, B0, ρ, env, S, R, N, z⟩ => ?_, fun env S Q Q' E E' h hx z => ha.mono _ _ _ _ _ _ (fun w S1 z => hb.mono _ _ _ _ _ _ (fun u S2 ⟨lo, hi, a, b, c, d⟩ => ⟨lo, hi, a, b, c, h _ _ d⟩) hx z) hx z⟩
  refine tM.go ha.mono R N z (fun _ z => z) fun w S1 q1 g1 ρ1 H1 v1 R1 e1 r1 => ?_
  refine tM.go hb.mono R1 (N.ext e1) q1 (fun x z => z.ext e1) fun u S2 ⟨lo, hi, ew, eu, ok, q2⟩ g2 ρ2 H2 v2 R2 e2 r2 => ?_
  subst ew eu
  cases (show RV _ _ _ _ (.int lo) v1 from r1)
  cases (show RV _ _ _ _ (.int hi) v2 from r2)
  refine ⟨lo, hi, rfl, rfl, ok, fun l hl => ?_⟩
  obtain ⟨R3, e3, nb3⟩ := R2.new (o := .tup (rgV lo hi)) hl
  exact q2 _ _ _ _ R3 ((e1.trans e2).trans e3) (RV.tup upd_same (rg_rv lo hi))
end
end RW
/-! RwDraw: the draw's dict, read and written. -/
namespace RW
open PySem PySem.Spec PyProof.Rows L2
variable [Tbl]
abbrev drK (l : Addr) (r : Int) (c : Addr) (t : Int) : List (Key × V) := [(kStr "large", .ref l), (kStr "rest", .int r), (kStr "cells", .ref c), (kStr "turn", .int t)]
theorem kne1 : kStr "large" ≠ kStr "rest" := by decide
theorem kne2 : kStr "large" ≠ kStr "cells" := by decide
theorem kne3 : kStr "large" ≠ kStr "turn" := by decide
theorem kne4 : kStr "rest" ≠ kStr "cells" := by decide
theorem kne5 : kStr "rest" ≠ kStr "turn" := by decide
theorem kne6 : kStr "cells" ≠ kStr "turn" := by decide
section
variable {l c : Addr} {r t : Int}
theorem dr_large : valV (drK l r c t) (kStr "large") = some (.ref l) := valV_pos rfl
theorem dr_rest : valV (drK l r c t) (kStr "rest") = some (.int r) := (valV_neg kne1).trans (valV_pos rfl)
theorem dr_cells : valV (drK l r c t) (kStr "cells") = some (.ref c) := (valV_neg kne2).trans ((valV_neg kne4).trans (valV_pos rfl))
theorem dr_turn : valV (drK l r c t) (kStr "turn") = some (.int t) := (valV_neg kne3).trans ((valV_neg kne5).trans ((valV_neg kne6).trans (valV_pos rfl)))
theorem put_rest {r' : Int} : putK (drK l r c t) (kStr "rest") (.int r') = drK l r' c t := by
  unfold putK
  simp only [List.any_cons, List.map_cons, List.map_nil, List.any_nil, kne1, Ne.symm kne4, Ne.symm kne5, decide_false, decide_true, Bool.true_or, Bool.or_true, if_true, if_false, Bool.false_or]
theorem put_turn {t' : Int} : putK (drK l r c t) (kStr "turn") (.int t') = drK l r c t' := by
  unfold putK
  simp only [List.any_cons, List.map_cons, List.map_nil, List.any_nil, kne3, kne5, kne6, decide_false, decide_true, Bool.true_or, Bool.or_true, if_true, if_false, Bool.false_or]
end
/-- the draw as it lies, its parts named -/
structure Dr (H : Hp) (a l c : Addr) (L N : List Int) (r t : Int) : Prop where
  al : a ≠ l
  ac : a ≠ c
  lc : l ≠ c
  d : H a = some (.dK (drK l r c t))
  hl : H l = some (.lst (L.map V.int))
  hc : H c = some (.lst (N.map V.int))
  r0 : 0 ≤ r
  t0 : 0 ≤ t
  L0 : ∀ x ∈ L, 0 ≤ x
  N0 : ∀ x ∈ N, 0 ≤ x
  Ll : L.length ≤ 63
  Nl : N.length ≤ 63
theorem DrOk.dr {H : Hp} {a l c : Addr} (h : DrOk H a l c) : ∃ L N r t, Dr H a l c L N r t := by
  obtain ⟨n1, n2, n3, L, N, r, t, h1, h2, h3, h4, h5, h6, h7, h8, h9⟩ := h
  exact ⟨L, N, r, t, n1, n2, n3, h1, h2, h3, h4, h5, h6, h7, h8, h9⟩
theorem Dr.ok {H : Hp} {a l c : Addr} {L N : List Int} {r t : Int} (h : Dr H a l c L N r t) : DrOk H a l c := ⟨h.al, h.ac, h.lc, L, N, r, t, h.d, h.hl, h.hc, h.r0, h.t0, h.L0, h.N0, h.Ll, h.Nl⟩
theorem Dr.get {H : Hp} {a l c : Addr} {L N : List Int} {r t : Int} (h : Dr H a l c L N r t) {k : Key} {v : V} (e : valV (drK l r c t) k = some v) : DGet H a (kV k) (some v) := by
  rw [← e]
  exact DGet.k h.d
theorem Dr.putR {H : Hp} {a l c : Addr} {L N : List Int} {r t r' : Int} (h : Dr H a l c L N r t) (h0 : 0 ≤ r') : DPut H a (kV (kStr "rest")) (.int r') (upd H a (.dK (drK l r' c t))) ∧ Dr (upd H a (.dK (drK l r' c t))) a l c L N r' t := by
  refine ⟨?_, h.al, h.ac, h.lc, upd_same, ?_, ?_, h0, h.t0, h.L0, h.N0, h.Ll, h.Nl⟩
  · rw [← put_rest (r := r)]
    exact DPut.k h.d (by rw [sizeLine_eq]; show (4 : Nat) < 16777216; decide)
  · rw [upd_ne (Ne.symm h.al)]; exact h.hl
  · rw [upd_ne (Ne.symm h.ac)]; exact h.hc
theorem Dr.putT {H : Hp} {a l c : Addr} {L N : List Int} {r t t' : Int} (h : Dr H a l c L N r t) (h0 : 0 ≤ t') : DPut H a (kV (kStr "turn")) (.int t') (upd H a (.dK (drK l r c t'))) ∧ Dr (upd H a (.dK (drK l r c t'))) a l c L N r t' := by
  refine ⟨?_, h.al, h.ac, h.lc, upd_same, ?_, ?_, h.r0, h0, h.L0, h.N0, h.Ll, h.Nl⟩
  · rw [← put_turn (t := t)]
    exact DPut.k h.d (by rw [sizeLine_eq]; show (4 : Nat) < 16777216; decide)
  · rw [upd_ne (Ne.symm h.al)]; exact h.hl
  · rw [upd_ne (Ne.symm h.ac)]; exact h.hc
theorem Dr.pop {H : Hp} {a l c : Addr} {x : Int} {L N : List Int} {r t : Int} (h : Dr H a l c (x :: L) N r t) : Dr (upd H l (.lst (L.map V.int))) a l c L N r t := by
  refine ⟨h.al, h.ac, h.lc, ?_, upd_same, ?_, h.r0, h.t0, fun y hy => h.L0 y (List.mem_cons_of_mem _ hy), h.N0, ?_, h.Nl⟩
  · rw [upd_ne h.al]; exact h.d
  · rw [upd_ne (Ne.symm h.lc)]; exact h.hc
  · have := h.Ll
    rw [List.length_cons] at this
    omega
/-- all but the draw's cells stand -/
def ButDr (a l c : Addr) (H H' : Hp) : Prop := ∀ b o, H b = some o → b ≠ a → b ≠ l → b ≠ c → H' b = some o
theorem ButDr.refl {a l c : Addr} {H : Hp} : ButDr a l c H H := fun _ _ e _ _ _ => e
theorem ButDr.trans {a l c : Addr} {H H1 H2 : Hp} (x : ButDr a l c H H1) (y : ButDr a l c H1 H2) : ButDr a l c H H2 := fun b o e n1 n2 n3 => y b o (x b o e n1 n2 n3) n1 n2 n3
theorem ButDr.upd {a l c b : Addr} {H : Hp} {o : HO} (h : b = a ∨ b = l ∨ b = c) : ButDr a l c H (upd H b o) := fun x o' e n1 n2 n3 => by
  rw [upd_ne (show x ≠ b from fun z => by rcases h with h | h | h <;> simp_all)]
  exact e
theorem ButDr.new {a l c p : Addr} {H : Hp} {o : HO} (h : H p = none) : ButDr a l c H (L2.upd H p o) := fun x o' e _ _ _ => by
  rw [upd_ne (ne_of_none e h)]
  exact e
/-- _law_mixed(draw): a number, the turn counted -/
def spMixed : Sp := fun vs H Q _ => ∃ a l c L N r t, vs = [.ref a] ∧ Dr H a l c L N r t ∧ ∀ H' k, 0 ≤ k → Dr H' a l c L N r (t + 1) → ButDr a l c H H' → Q (.int k) H'
def takeM : MF := fun ds Q _ => ∃ n, ds = [.drw, .int n] ∧ 0 < n ∧ n < 1073741824 ∧ ∀ k, 0 ≤ k → k < n → Q (.int k)
theorem mono_take : MonoF takeM := fun ds Q Q' E E' h _ ⟨n, a, b, c, d⟩ => ⟨n, a, b, c, fun k h0 h1 => h _ (d k h0 h1)⟩
theorem dr_of {C : Cxt} {g : Gh} {B0 : Addr → Prop} {H : Hp} {v : V} (R : Rel C g B0 [] [] H) (h : RV C g (Bad g B0 [] []) H .drw v) : ∃ a l c L N r t, g.1 = some (a, l, c) ∧ v = .ref a ∧ Dr H a l c L N r t := by
  cases h with
  | @drw a l c e =>
    have d := R.dr.1
    rw [e] at d
    obtain ⟨L, N, r, t, q⟩ := DrOk.dr d
    exact ⟨a, l, c, L, N, r, t, e, rfl, q⟩
/-- the draw's cells are written, nothing else -/
theorem Rel.draw {C : Cxt} {g : Gh} {B0 : Addr → Prop} {H H' : Hp} {a l c : Addr} (R : Rel C g B0 [] [] H) (e : g.1 = some (a, l, c)) (d : DrOk H' a l c) (k : ButDr a l c H H') : Rel C g B0 [] [] H' ∧ Ext g B0 [] [] H g [] [] H' := by
  have d0 := R.dr.1
  rw [e] at d0
  obtain ⟨_, _, _, _, _, _, _, e1, e2, e3, _⟩ := d0
  have ne : ∀ b o, H b = some o → (∀ u, o ≠ .dK u) → (∀ u, o ≠ .lst u) → H' b = some o := fun b o h n1 n2 => k b o h (fun z => by rw [z, e1] at h; exact n1 _ (Option.some.inj h).symm) (fun z => by rw [z, e2] at h; exact n2 _ (Option.some.inj h).symm) (fun z => by rw [z, e3] at h; exact n2 _ (Option.some.inj h).symm)
  have im : ∀ b o, H b = some o → Imm o → H' b = some o := fun b o h i => ne b o h (fun u z => by rw [z] at i; exact i) fun u z => by rw [z] at i; exact i
  have mem : ∀ b, b = a ∨ b = l ∨ b = c → Own g [] [] b := fun b h => .inl (.inl (by rw [e]; exact h))
  refine ⟨⟨rfl, fun i o a h => by simp at h, fun i j o o' a h => by simp at h, fun i o a h => by simp at h, fun b hb => ?_, ?_, ?_, R.dr.2.2⟩, im, fun b o h n => k b o h (fun z => n (mem b (.inl z))) (fun z => n (mem b (.inr (.inl z)))) fun z => n (mem b (.inr (.inr z))), fun _ _ _ n => n, .refl, ⟨[], rfl⟩⟩
  · obtain ⟨o, h⟩ := R.b0 b hb
    obtain ⟨_, _, _, _, _, _, _, f1, f2, f3, _⟩ := d
    by_cases h1 : b = a
    · exact ⟨_, by rw [h1]; exact f1⟩
    · by_cases h2 : b = l
      · exact ⟨_, by rw [h2]; exact f2⟩
      · by_cases h3 : b = c
        · exact ⟨_, by rw [h3]; exact f3⟩
        · exact ⟨o, k b o h h1 h2 h3⟩
  · rw [e]
    exact d
  · intro p hp
    obtain ⟨qs, t1, t2, t3⟩ := R.dr.2.1 p hp
    refine ⟨qs, ne _ _ t1 (fun _ z => nomatch z) (fun _ z => nomatch z), t2, fun pos cv hc => ?_⟩
    obtain ⟨c0, q1, q2⟩ := t3 pos cv hc
    exact ⟨c0, q1, im _ _ q2 (by unfold LamX.CodeO; trivial)⟩
/-- a new draw -/
theorem Rel.newDraw {C : Cxt} {g : Gh} {B0 : Addr → Prop} {H H' : Hp} {a l c : Addr} (R : Rel C g B0 [] [] H) (e : g.1 = none) (d : DrOk H' a l c) (k : ∀ b o, H b = some o → H' b = some o) (n : H a = none ∧ H l = none ∧ H c = none) :
    Rel C (some (a, l, c), g.2) B0 [] [] H' ∧ Ext g B0 [] [] H (some (a, l, c), g.2) [] [] H' := by
  refine ⟨⟨rfl, fun i o a h => by simp at h, fun i j o o' a h => by simp at h, fun i o a h => by simp at h, fun b hb => let ⟨o, h⟩ := R.b0 b hb; ⟨o, k b o h⟩, d, R.dr.2.1.ext k, R.dr.2.2⟩, fun b o h _ => k b o h, fun b o h _ => k b o h, fun b o h nb z => ?_, ⟨.inl e, rfl⟩, ⟨[], rfl⟩⟩
  rcases z with z | ⟨i, o, h1, _⟩
  · rcases z with z | z
    · rcases z with z | z | z
      · exact ne_of_none h n.1 z
      · exact ne_of_none h n.2.1 z
      · exact ne_of_none h n.2.2 z
    · exact nb (.inl (.inr z))
  · simp at h1
end RW
/-! RwUse: a found def, short words for the operators, paths into a text. -/
namespace RW
open PySem PySem.Spec PyProof.Rows L2
variable [Tbl]
structure Fnd (P : Program) (w : World) (K : PySem.W.Frag) (mg : Str → Option Value) (base : Heap) (x : Str) (st : Stmt) (ps : List Str) (k : Nat) (m : MF) : Prop where
  mono : MonoF m
  ex : ∃ f fd, FnG P w K mg base (L2.CX P w) k f fd ps (spF ⟨K, mg, Tbl.tabs⟩ ps.length m) ∧ mg x = some (.ref f) ∧ Fun K x x st f fd ∧ Binds K fd ps []
section
variable {E : XK} {X : Cx} {k : Nat} {m : MF} {x : Str} {st : Stmt} {ps ks : List Str} {idx : List Nat} {e : Expr} {es : List Expr} {kws : List Keyword} {t : MA} {p pos : Pos}
theorem me_callF (F : Fnd X.prog X.w X.K X.mg X.base x st ps k m) (tk : Takes X (fun cls d _ H => E cls d H)) (hgd : X.A.guards = some []) (hr : Room k X.A) (ha : MAJ E X (e :: es) t)
    (hn : (e :: es).length = ps.length := by rfl) (hg : Gl X x := by rfl) (hdb : (x == ("__debug__" : Str)) = false := by decide) (he : starEach (e :: es) X.env = (false, eval e X.env) :: starEach es X.env := by rfl) (hpl : (backTo pos (starEach es X.env)).any (·.1) = false := by rfl) : ME E X (.Call (.Name x p) (e :: es) [] pos) (mCall m t) := by
  obtain ⟨f, fd, G, hm, hF, hb⟩ := F.ex
  exact me_call G F.mono tk hgd hr hm hF.kp hb ha hn hg hdb he hpl
/-- the mirror asked with as many arguments as the def has -/
def mArgs (n : Nat) (m : MF) : MF := fun ds Q E => ds.length = n ∧ m ds Q E
theorem me_callKF (F : Fnd X.prog X.w X.K X.mg X.base x st ps k m) (hb : ∀ (kV doc pm : Value) (an : Option Addr) (cdv ct : Value), KBinds X.K (PySem.W.fnOf x x (defArgs st) (defBody st) (defScope st) .none kV doc pm an cdv ct) ps ks (permG idx) (permG idx))
    (tk : Takes X (fun cls d _ H => E cls d H)) (hgd : X.A.guards = some []) (hr : Room k X.A) (ha : MKJ E X kws t) (hg : Gl X x := by rfl) (hall : (backToKw pos (keywordEach kws X.env)).all (·.1.isSome) = true := by rfl) (hks : (backToKw pos (keywordEach kws X.env)).filterMap (·.1) = ks := by rfl) (hdb : (x == ("__debug__" : Str)) = false := by decide)
    (hpl : ((backTo pos (starEach [] X.env)).any (·.1) || (backToKw pos (keywordEach kws X.env)).any (·.1.isNone)) = false := by rfl) : ME E X (.Call (.Name x p) [] kws pos) (mCallK idx (mArgs ps.length m) t) := by
  obtain ⟨f, fd, G, hm, hF, hb0⟩ := F.ex
  obtain ⟨oc, od, kV, doc, pm, an, cdv, ct, osl, rfl, lk, hcd⟩ := hF.ex
  exact me_callK (n := ps.length) (m := mArgs ps.length m) (G.imp fun vs H Q E ⟨hl, g, B0, ds, R, r, _, q⟩ => ⟨hl, g, B0, ds, R, r, q⟩) (fun ds Q Q' E E' h hx ⟨hl, q⟩ => ⟨hl, F.mono _ _ _ _ _ h hx q⟩) tk hgd hr hm hF.kp (hb _ _ _ _ _ _) ha (fun ds Q E h => h.1) hg hall hks hdb hpl
end
abbrev xAdd : MO := opC cPlus plusD
abbrev xSub : MO := opC cII (iD fun i j => i - j)
abbrev xMul : MO := opC (cI CMul) (iD fun i j => i * j)
abbrev xFdv : MO := opC (cI CDiv) (iD fun i j => i / j)
abbrev xMod : MO := opC (cI fun _ j => 0 < j) (iD fun i j => i % j)
abbrev xPow : MO := opC (cI CPow) (iD fun i j => i ^ j.toNat)
abbrev xLt : MO := opC cII (bD fun i j => decide (i < j))
abbrev xLe : MO := opC cII (bD fun i j => decide (i ≤ j))
abbrev xGt : MO := opC cII (bD fun i j => decide (j < i))
abbrev xGe : MO := opC cII (bD fun i j => decide (j ≤ i))
abbrev xEq : MO := opC cEq fun a b => .bl (eqD a b)
abbrev xNe : MO := opC cEq fun a b => .bl (!eqD a b)
abbrev xIsN : MO := opC (fun _ b => b = .non) fun a _ => .bl (isNon a)
abbrev xNotN : MO := opC (fun _ b => b = .non) fun a _ => .bl (!isNon a)
abbrev xIsB : MO := opC (fun _ b => ∃ k, b = .bl k) fun a b => .bl (isBlD a b)
abbrev xNotB : MO := opC (fun _ b => ∃ k, b = .bl k) fun a b => .bl (!isBlD a b)
abbrev xIn : MO := opC (fun a b => fl1 a = true ∧ isSeq b = true ∧ (seqD b).all fl1 = true) fun a b => .bl (in1 a (seqD b))
abbrev xNotIn : MO := opC (fun a b => fl1 a = true ∧ isSeq b = true ∧ (seqD b).all fl1 = true) fun a b => .bl (!in1 a (seqD b))
abbrev xIx : MO := opC cIx fIx
abbrev cSeq : List D → Prop := c1 fun d => isSeq d = true
abbrev cBls : List D → Prop := c1 fun d => ∃ xs bs, d = .lst xs ∧ blsD xs = some bs
abbrev cNums : List D → Prop := c1 fun d => ∃ xs bs, d = .lst xs ∧ intsD xs = some bs
abbrev fLen : List D → D := f1 lenD
abbrev fAll : List D → D := f1 fun d => .bl (((blsD (seqD d)).getD []).all _root_.id)
abbrev fAny : List D → D := f1 fun d => .bl (((blsD (seqD d)).getD []).any _root_.id)
abbrev fSum : List D → D := f1 fun d => .int (((intsD (seqD d)).getD []).sum)
abbrev fTup : List D → D := f1 fun d => .tup (seqD d)
abbrev fLst : List D → D := f1 fun d => .lst (seqD d)
abbrev fRepr : List D → D := f1 fun d => .str (shownD d)
abbrev fAbs : List D → D := f1 (uI fun i => if i < 0 then -i else i)
abbrev fInt : List D → D := f1 (uI fun i => i)
abbrev fMin : List D → D := f2 (iD fun i j => if j < i then j else i)
abbrev fMax : List D → D := f2 (iD fun i j => if j > i then j else i)
/-- the parts of a text, one step -/
def exKids : Expr → List Expr
  | .BoolOp _ vs _ => vs
  | .BinOp a _ b _ => [a, b]
  | .UnaryOp _ a _ => [a]
  | .IfExp a b c _ => [a, b, c]
  | .Compare a _ bs _ => a :: bs
  | .Call f as _ _ => f :: as
  | .Subscript a b _ => [a, b]
  | .Attribute a _ _ => [a]
  | .List es _ => es
  | .Tuple es _ _ => es
  | _ => []
def stExs : Stmt → List Expr
  | .Return (some e) _ => [e]
  | .Assign _ v _ => [v]
  | .For _ i _ _ _ => [i]
  | .While t _ _ _ => [t]
  | .If t _ _ _ => [t]
  | .Expr v _ => [v]
  | _ => []
def stSts : Stmt → List Stmt
  | .For _ _ b _ _ => b
  | .While _ b _ _ => b
  | .If _ b o _ => b ++ o
  | _ => []
def exAt : Expr → List Nat → Expr
  | e, [] => e
  | e, i :: p => exAt ((exKids e).getD i e) p
def stAt : List Stmt → List Nat → Stmt
  | _, [] => .Pass ⟨0, 0, 0, 0⟩
  | l, [i] => l.getD i (.Pass ⟨0, 0, 0, 0⟩)
  | l, i :: p => stAt (stSts (l.getD i (.Pass ⟨0, 0, 0, 0⟩))) p
def lamOf (X : Cx) (l : List Stmt) (sp ep : List Nat) : Addr → Addr → HO := match exAt ((stExs (stAt l sp)).getD 0 (.Name "" ⟨0, 0, 0, 0⟩)) ep with
  | .Lambda params body scope _ => lamO X params body scope
  | _ => fun _ _ => .ext fun _ => False
end RW
namespace RW
open PySem PySem.Spec PyProof.Rows L2
variable [Tbl]
/-- what follows from the body's words -/
def mFc (n : Nat) (b : MS) : MF := fun ds Q E => ∃ Q0 E0, mFn n b ds Q0 E0 ∧ (∀ x, Q0 x → Q x) ∧ ∀ x, E0 x → E x
theorem mono_Fc (n : Nat) (b : MS) : MonoF (mFc n b) := fun _ _ _ _ _ h hx ⟨Q0, E0, a, c, d⟩ => ⟨Q0, E0, a, fun x z => h x (c x z), fun x z => hx x (d x z)⟩
theorem mFc.mk {n : Nat} {b : MS} {ds : List D} {Q E : D → Prop} (h : mFn n b ds Q E) : mFc n b ds Q E := ⟨Q, E, h, fun _ z => z, fun _ z => z⟩
theorem fn_fnd {P : Program} {w : World} {K : PySem.W.Frag} {mg : Str → Option Value} {base : Heap} {x : Str} {st : Stmt} {f : Addr} {fd : FuncData} {N ps : List Str} {k : Nat} {b : MS} (F : Fun K x x st f fd) (Sc : FnScope N ps (defScope st)) (gm : mg x = some (.ref f)) (bn : Binds K fd ps [])
    (hb : ∀ (cdv : Value) (A : Around) (outer : List PySem.Env) (s : Shared) (H : Hp) (E : XK), Room k (A.deeper (envOfC x (defScope st) s.heap.objs.size f cdv)) → (A.deeper (envOfC x (defScope st) s.heap.objs.size f cdv)).guards = some [] → MSs E (cxD P w K mg base N x st f cdv A outer s H E) (defBody st) b) :
    Fnd P w K mg base x st ps (k + 1) (mFc N.length b) := by
  refine ⟨mono_Fc _ _, f, fd, ?_, gm, F, bn⟩
  obtain ⟨oc, od, kV, doc, pm, an, cdv, ct, osl, rfl, lk, hcd⟩ := F.ex
  refine fnG_of lk hcd Sc (fun vs H Q E h => h.1) fun A outer s H vs Q E hr hgd h => ?_
  obtain ⟨hl, g, B0, ds, R, rs, Q0, E0, hm, q0, e0⟩ := h
  have J := hb cdv A outer s H E hr hgd
  refine ⟨_, J.ps, g, B0, [], startM N.length ds, [], R, start_env rs, J.mono _ _ _ _ ?_ hm⟩
  exact ⟨fun _ _ z g' ρ' H' σ' R' e N' => q0 _ z g' H' .non R'.nil e.nil .non, fun x z g' ρ' S' H' v R' e r => q0 _ z g' H' v R'.nil e.nil r, fun _ _ z => z.elim, fun _ _ z => z.elim, fun x z => e0 x z⟩
end RW
namespace RW
open PySem PySem.Spec PyProof.Rows L2
variable [Tbl]
theorem me_neg {E : XK} {X : Cx} {i : Int} {j : Nat} {p pos : Pos} : ME E X (.UnaryOp .USub (.Constant (.int i) j p) pos) (mD (.int (-i))) :=
  ⟨PE.imp (pe_un un_neg pe_int) fun σ H Q ⟨g, B0, ρ, env, S, R, N, q⟩ => ⟨i, rfl, q g ρ H _ R Ext.refl (RV.int _)⟩, fun _ _ _ _ _ _ h _ q => h _ _ q⟩
end RW
namespace RW
open PySem PySem.Spec PyProof.Rows L2
theorem un65 {k : Nat} {A : Around} (hr : Room k A) : A.units + 65 < cLine := by
  have := hr.un
  omega
end RW
/-! RwIns: instances of own classes: made, read, compared. -/
namespace RW
open PySem PySem.Spec PyProof.Rows L2
variable [Tbl]
/-! ### making -/
theorem guards_make {A : Around} (h : A.guards = some []) (C : Addr) (us : List Value) (kw : List (Str × Value)) : (A.under (.builtin "type.__call__" ⟨.ref C :: us, kw⟩)).guards = some [] := by
  simp [Around.under, Code.guards, Code.isGuard, guardIds, pushGuards, h]
section
variable {X : Cx} {k : Nat} {f Ca : Addr} {fd : FuncData} {ps : List Str} {sp : Sp} {E : L2.St → XK}
theorem make_run {pinned : List (Addr × Obj)} {σ : L2.St} {H : Hp} {st : Shared} {Q : VK} {us bound : List Value} {kw : List (Str × Value)} {bv : List V} (M : Mk X.K Ca f) (F : FnG X.prog X.w X.K X.mg X.base (L2.CX X.prog X.w) k f fd ps sp) (gd : X.A.guards = some []) (room : Room (k + 1) X.A)
    (bd : ∀ (s : Shared) (p : Addr), X.K.In s.heap → BindsTo s fd ⟨.ref p :: us, kw⟩ (ps.zip (.ref p :: bound))) (ps_ : PassesAt (L2.CX X.prog X.w) X σ (E σ)) (I : Inv X pinned σ H st) (rv : Vals bv bound)
    (ask : ∀ x dx, H x = none → H dx = none → dx ≠ x → sp (.ref x :: bv) (upd (upd H dx (.own x)) x (.ins Ca dx [])) (fun v H2 => v = .non ∧ Q (.ref x) H2) (E σ)) : wpAny (model X.prog X.w) X.A (call (.ref Ca) us kw) (EP X pinned σ Q) X.xe st := by
  have now := ask (st.heap.objs.size + 1) st.heap.objs.size (I.hok.fresh (Nat.le_succ _)) (I.hok.fresh (Nat.le_refl _)) (Nat.ne_of_lt (Nat.lt_succ_self _))
  have J := Inv.made (C := Ca) I
  refine wpAny_call (make_map (f := f) I.kIn M.makes M.init (beq_iff_eq.mp M.fn) (codeAny_mono (F.run _ X.stack _ _ ⟨.ref (st.heap.objs.size + 1) :: us, kw⟩ (.ref (st.heap.objs.size + 1) :: bound) (.ref (st.heap.objs.size + 1) :: bv) _ _ (room.make Ca us kw) (guards_make gd Ca us kw) (J.env0.make Ca us kw) (bd _ _ J.kIn) (.cons rfl rv) now) fun r s' h => ?_))
  match r, h with
  | .error e, h => exact ps_ pinned _ _ e s' J h
  | .ok .next, h => exact h.elim
  | .ok .brk, h => exact h.elim
  | .ok .cont, h => exact h.elim
  | .ok (.ret u), h =>
    obtain ⟨v, H', J2, ru, ev, q⟩ := J.after h
    subst ev
    exact ⟨ru, .ref (st.heap.objs.size + 1), H', J2, rfl, q⟩
/-- C(e, ..) -/
def tMakeG (Ca : Addr) (sp : Sp) (gV : List V → List V) (E : L2.St → XK) (t : TA) : TE := fun σ H Q => t σ H fun vs H1 => ∀ x dx, H1 x = none → H1 dx = none → dx ≠ x → sp (.ref x :: gV vs) (upd (upd H1 dx (.own x)) x (.ins Ca dx [])) (fun v H2 => v = .non ∧ Q (.ref x) H2) (E σ)
variable {x : Str} {e : Expr} {es : List Expr} {kws : List Keyword} {t : TA} {p pos : Pos} {ks : List Str} {idx : List Nat}
theorem pe_makeG (M : Mk X.K Ca f) (F : FnG X.prog X.w X.K X.mg X.base (L2.CX X.prog X.w) k f fd ps sp) (gd : X.A.guards = some []) (room : Room (k + 1) X.A) (gl : Gl X x) (hm : X.mg x = some (.ref Ca)) (bd : Binds X.K fd ps []) (px : ∀ σ, PassesAt (L2.CX X.prog X.w) X σ (E σ)) (ha : PA X (e :: es) t)
    (hdb : (x == ("__debug__" : Str)) = false := by decide) (he : starEach (e :: es) X.env = (false, eval e X.env) :: starEach es X.env := by rfl) (hpl : (backTo pos (starEach es X.env)).any (·.1) = false := by rfl) : PE X (.Call (.Name x p) (e :: es) [] pos) (tMakeG Ca sp _root_.id E t) := by
  refine ⟨fun pinned st σ H Q I h => ?_⟩
  refine wpAny_Call_Name_kw (ld_glob I gl hm ?_ hdb)
  refine PySem.W.callWith_K (h₀ := X.base) I.ok.mod.kin M.kp (thn (ha.run pos pinned st σ H _ I h) fun us st1 ⟨vs, H1, J, rv, q⟩ => ⟨J.kIn, ?_⟩) he hpl
  refine make_run M F gd room (fun s a kin => ?_) (px σ) J rv q
  have len : (Value.ref a :: us).length = ps.length := by
    have n := F.len _ _ _ _ (q (st1.heap.objs.size + 1) st1.heap.objs.size (J.hok.fresh (Nat.le_succ _)) (J.hok.fresh (Nat.le_refl _)) (Nat.ne_of_lt (Nat.lt_succ_self _)))
    rw [← n, List.length_cons, List.length_cons, ← rv.length]
    rfl
  have b := bd s (.ref a :: us) kin (by rw [List.append_nil]; exact len)
  rwa [List.append_nil] at b
/-- C(k = v, ..), keywords alone -/
theorem pe_makeKG (M : Mk X.K Ca f) (F : FnG X.prog X.w X.K X.mg X.base (L2.CX X.prog X.w) k f fd ps sp) (gd : X.A.guards = some []) (room : Room (k + 1) X.A) (gl : Gl X x) (hm : X.mg x = some (.ref Ca))
    (bd : ∀ (s : Shared) (a : Addr) (ws : List Value), ws.length = ks.length → BindsTo s fd ⟨[.ref a], ks.zip ws⟩ (ps.zip (.ref a :: permG idx [] ws))) (px : ∀ σ, PassesAt (L2.CX X.prog X.w) X σ (E σ)) (ha : PK X kws t) (hn : kws.length = ks.length := by rfl)
    (hall : (backToKw pos (keywordEach kws X.env)).all (·.1.isSome) = true := by rfl) (hks : (backToKw pos (keywordEach kws X.env)).filterMap (·.1) = ks := by rfl) (hdb : (x == ("__debug__" : Str)) = false := by decide)
    (hpl : ((backTo pos (starEach [] X.env)).any (·.1) || (backToKw pos (keywordEach kws X.env)).any (·.1.isNone)) = false := by rfl) : PE X (.Call (.Name x p) [] kws pos) (fun σ H Q => t σ H fun vs H1 => vs.length = ks.length ∧ ∀ x dx, H1 x = none → H1 dx = none → dx ≠ x → sp (.ref x :: permG idx [] vs) (upd (upd H1 dx (.own x)) x (.ins Ca dx [])) (fun v H2 => v = .non ∧ Q (.ref x) H2) (E σ)) := by
  refine ⟨fun pinned st σ H Q I h => ?_⟩
  refine wpAny_Call_Name_kw (ld_glob I gl hm ?_ hdb)
  refine PySem.W.callWith_KW0 (h₀ := X.base) I.ok.mod.kin M.kp hall ?_ hpl
  refine thn (ha.run pos pinned st σ H _ I h) fun us st1 ⟨vs, H1, J, rv, hl, q⟩ => ⟨J.kIn, ?_⟩
  rw [hks]
  exact make_run (us := []) M F gd room (fun s a _ => bd s a us (by rw [← rv.length]; exact hl)) (px σ) J (permG_rel idx .nil rv) q
end
/-! ### __init__'s mirror -/
def dpF (S : Sto) : List (Str × W) → Option (List (Str × D))
  | [] => some []
  | (n, w) :: r => match RW.dp 4 S w, dpF S r with
    | some x, some xs => some ((n, x) :: xs)
    | _, _ => none
def endI (c : Str) (Q E : D → Prop) : MEnds := ⟨fun _ S => ∃ fs xs, S[0]? = some (.ins c fs) ∧ dpF S fs = some xs ∧ Q (.ins c xs), fun _ => False, fun _ _ => False, fun _ _ => False, E⟩
/-- an __init__ of n slots, self the first -/
def mIni (c : Str) (n : Nat) (b : MS) : MF := fun ds Q E => ∃ Q0 E0, b (endI c Q0 E0) (some (.ref 0) :: startM (n - 1) ds) [.ins c []] ∧ (∀ x, Q0 x → Q x) ∧ ∀ x, E0 x → E x
theorem mono_Ini (c : Str) (n : Nat) (b : MS) : MonoF (mIni c n b) := fun _ _ _ _ _ h hx ⟨Q0, E0, a, q, e⟩ => ⟨Q0, E0, a, fun x z => h x (q x z), fun x z => hx x (e x z)⟩
theorem mIni.mk {c : Str} {n : Nat} {b : MS} {ds : List D} {Q E : D → Prop} (h : b (endI c Q E) (some (.ref 0) :: startM (n - 1) ds) [.ins c []]) : mIni c n b ds Q E := ⟨Q, E, h, fun _ z => z, fun _ z => z⟩
/-- behind the making: all but the new instance as it was -/
structure NewI (g : Gh) (H : Hp) (p : Addr) (g' : Gh) (H' : Hp) : Prop where
  imm : ∀ b o, H b = some o → Imm o → H' b = some o
  keep : ∀ b o, H b = some o → ¬ DrA g b → b ≠ p → H' b = some o ∧ ¬ DrA g' b
  gh : GhLe g g'
def spI (C : Cxt) (c : Str) (n : Nat) (m : MF) : Sp := fun vs H Q E => vs.length = n + 1 ∧ ∃ g B0 p us ds, vs = .ref p :: us ∧ Rel C g B0 [p] [.ins c []] H ∧ RVs C g (Bad g B0 [p] [.ins c []]) H ds us ∧
  m ds (fun x => ∀ g' H', Rel C g' B0 [] [] H' → NewI g H p g' H' → RV C g' (Bad g' B0 [] []) H' x (.ref p) → Q .non H') (XPost C E g B0 [p] [.ins c []] H)
section
variable {C : Cxt} {g g' : Gh} {B0 : Addr → Prop} {ρ ρ' : List Addr} {S S' : Sto} {H H' : Hp}
theorem Rel.dpF (R : Rel C g B0 ρ S H) : ∀ {fs : List (Str × W)} {fvs : List (Str × V)} {xs : List (Str × D)}, Paired (fun (p : Str × W) (q : Str × V) => p.1 = q.1 ∧ RW C g (Bad g B0 ρ S) ρ H p.2 q.2) fs fvs → RW.dpF S fs = some xs → RFs C g (Bad g B0 [] []) H xs fvs
  | [], _, xs, p, e => by
    cases p
    cases e
    exact .nil
  | (n, w) :: fs, _, xs, p, e => by
    cases p with
    | cons h t =>
      rename_i q qs
      obtain ⟨n2, v⟩ := q
      obtain ⟨rfl, hv⟩ := h
      unfold RW.dpF at e
      cases h1 : RW.dp 4 S w with
      | none => rw [h1] at e; simp at e
      | some y =>
        cases h2 : RW.dpF S fs with
        | none => rw [h1, h2] at e; simp at e
        | some ys =>
          rw [h1, h2] at e
          cases e
          exact .cons (R.dp 4 hv h1) (Rel.dpF R t h2)
theorem Rel.insD (R : Rel C g B0 ρ S H) {i : Nat} {c : Str} {fs : List (Str × W)} {xs : List (Str × D)} {a : Addr} (hi : S[i]? = some (.ins c fs)) (ha : ρ[i]? = some a) (e : RW.dpF S fs = some xs) : RV C g (Bad g B0 [] []) H (.ins c xs) (.ref a) := by
  obtain ⟨Ca, dx, fvs, hm, h1, h2, p⟩ := R.obj i _ a hi ha
  obtain ⟨o1, o2⟩ := R.out i _ a hi rfl ha
  exact .ins hm h1 h2 (not_bad_nil o1 o2) (R.dpF p e)
theorem own_one {c : Str} {p b : Addr} : Own g [p] [.ins c []] b ↔ DrA g b ∨ b = p := by
  constructor
  · rintro (z | ⟨i, o, h1, _, h3⟩)
    · exact .inl z
    · match i, h1, h3 with
      | 0, _, h3 => exact .inr (Option.some.inj h3).symm
      | i + 1, h1, _ => simp at h1
  · rintro (z | rfl)
    · exact .inl z
    · exact .inr ⟨0, _, rfl, rfl, rfl⟩
theorem Ext.newI {c : Str} {p : Addr} (e : Ext g B0 [p] [.ins c []] H g' ρ' S' H') : NewI g H p g' H' where
  imm := e.imm
  keep := fun b o h n1 n2 => by
    have no : ¬ Own g [p] [.ins c []] b := fun z => (own_one.mp z).elim n1 n2
    exact ⟨e.keep b o h no, fun z => e.own b o h no (.inl z)⟩
  gh := e.gh
end
/-- an __init__ by its body -/
structure Ini (P : Program) (w : World) (K : PySem.W.Frag) (mg : Str → Option Value) (base : Heap) (c : Str) (st : Stmt) (ps : List Str) (k : Nat) (m : MF) : Prop where
  mono : MonoF m
  ex : ∃ f fd Ca, FnG P w K mg base (L2.CX P w) k f fd ("self" :: ps) (spI ⟨K, mg, Tbl.tabs⟩ c ps.length m) ∧ Mk K Ca f ∧ mg c = some (.ref Ca) ∧ (∃ q, Fun K "__init__" q st f fd) ∧ Binds K fd ("self" :: ps) []
theorem ini_ini {P : Program} {w : World} {K : PySem.W.Frag} {mg : Str → Option Value} {base : Heap} {c q : Str} {st : Stmt} {f Ca : Addr} {fd : FuncData} {N ps : List Str} {k : Nat} {b : MS} (F : Fun K "__init__" q st f fd) (Sc : FnScope ("self" :: N) ("self" :: ps) (defScope st)) (M : Mk K Ca f) (gm : mg c = some (.ref Ca)) (bn : Binds K fd ("self" :: ps) [])
    (hb : ∀ (cdv : Value) (A : Around) (outer : List PySem.Env) (s : Shared) (H : Hp) (E : XK), Room k (A.deeper (envOfC q (defScope st) s.heap.objs.size f cdv)) → (A.deeper (envOfC q (defScope st) s.heap.objs.size f cdv)).guards = some [] → MSs E (cxD P w K mg base ("self" :: N) q st f cdv A outer s H E) (defBody st) b) :
    Ini P w K mg base c st ps (k + 1) (mIni c (N.length + 1) b) := by
  refine ⟨mono_Ini _ _ _, f, fd, Ca, ?_, M, gm, ⟨q, F⟩, bn⟩
  obtain ⟨oc, od, kV, doc, pm, an, cdv, ct, osl, rfl, lk, hcd⟩ := F.ex
  refine fnG_of lk hcd Sc (fun vs H Q E h => by rw [h.1]; rfl) fun A outer s H vs Q E hr hgd h => ?_
  obtain ⟨hl, g, B0, p, us, ds, rfl, R, rs, Q0, E0, hm, q0, e0⟩ := h
  have J := hb cdv A outer s H E hr hgd
  have se := start_env (N := N) (n := N.length) (g := g) (B0 := Bad g B0 [p] [.ins c []]) (rs.mono (Up.weak fun b z => z.elim (fun z => z) fun z => .inr (.inl (Own.nil.mp z)))) rfl
  have en : EnvR (ctx (cxD P w K mg base ("self" :: N) q st f cdv A outer s H E)) g (Bad g B0 [p] [.ins c []]) [p] H (some (.ref 0) :: startM N.length ds) (L2.start ("self" :: N) (.ref p :: us)) := by
    have e1 : L2.start ("self" :: N) (.ref p :: us) = some (.ref p) :: L2.start N us := by
      unfold L2.start
      simp
    rw [e1]
    refine ⟨by rw [List.length_cons, List.length_cons, se.1], fun i w hw => ?_⟩
    match i, hw with
    | 0, hw =>
      cases hw
      exact ⟨_, rfl, p, rfl, rfl⟩
    | i + 1, hw =>
      obtain ⟨v, hv, rv⟩ := se.2 i w (by simpa using hw)
      refine ⟨v, by simpa using hv, ?_⟩
      cases w with
      | d y => exact RV.mono (Up.weak fun b z => .inl z) rv
      | ref j =>
        obtain ⟨a, ha, _⟩ := rv
        simp at ha
  refine ⟨_, J.ps, g, B0, [p], _, [.ins c []], R, en, J.mono _ _ _ _ ?_ hm⟩
  refine ⟨fun env' S' z g' ρ' H' σ' R' e N' => ?_, fun _ z => z.elim, fun _ _ z => z.elim, fun _ _ z => z.elim, fun x z => e0 x z⟩
  obtain ⟨fs, xs, h1, h2, h3⟩ := z
  obtain ⟨tl, et⟩ := e.pre
  have ha : ρ'[0]? = some p := by rw [et]; rfl
  exact q0 _ h3 g' H' R'.nil e.newI (R'.insD h1 ha h2)
end RW
namespace RW
open PySem PySem.Spec PyProof.Rows L2
variable [Tbl]
section
variable {C : Cxt} {E : XK} {g : Gh} {B0 : Addr → Prop} {ρ : List Addr} {S : Sto} {H : Hp}
theorem make_go {m : MF} (mm : MonoF m) {c : Str} {Ca : Addr} {n : Nat} {Q : VK} {ds : List D} {vs : List V} {Qm Em : D → Prop} (hl : vs.length = n) (gm : C.mg c = some (.ref Ca)) (R : Rel C g B0 ρ S H) (r : RVs C g (Bad g B0 ρ S) H ds vs) (h : m ds Qm Em) (hx : ∀ x, Em x → XPost C E g B0 ρ S H x)
    (k : ∀ x, Qm x → OkP C g B0 ρ S H Q (.d x) S) {x dx : Addr} (h1 : H x = none) (h2 : H dx = none) (h3 : dx ≠ x) : spI C c n m (.ref x :: vs) (upd (upd H dx (.own x)) x (.ins Ca dx [])) (fun v H2 => v = .non ∧ Q (.ref x) H2) E := by
  obtain ⟨Ra, ea, _⟩ := R.call.new (p := dx) (o := .own x) h2
  have hx0 : upd H dx (.own x) x = none := by rw [upd_ne (Ne.symm h3)]; exact h1
  obtain ⟨Rb, eb⟩ := Ra.push (p := x) (u := .ins Ca dx []) (o := .ins c []) hx0 rfl fun B b1 b2 => ⟨Ca, dx, [], gm, upd_same, by rw [upd_ne h3, upd_same], .nil⟩
  have kp : ∀ b o, H b = some o → upd (upd H dx (.own x)) x (.ins Ca dx []) b = some o := fun b o e => by rw [upd_ne (ne_of_none e h1), upd_ne (ne_of_none e h2)]; exact e
  refine ⟨by rw [List.length_cons, hl], g, B0c g B0 ρ S, x, vs, ds, rfl, Rb, RVs.mono (ea.trans eb).up (r.mono (Up.weak fun b z => bad_call.mp z)), mm _ _ _ _ _ (fun y q g' H' R' nw r' => ⟨rfl, ?_⟩) (fun y z => ?_) h⟩
  · have e' : RW.Ext g (B0c g B0 ρ S) [] [] H g' [] [] H' := ⟨fun b o a i => nw.imm b o (kp b o a) i, fun b o a n => (nw.keep b o (kp b o a) (fun z => n (Own.nil.mpr z)) (ne_of_none a h1)).1,
      fun b o a n z => (nw.keep b o (kp b o a) (fun z => n (Own.nil.mpr z)) (ne_of_none a h1)).2 (Own.nil.mp z), nw.gh, ⟨[], rfl⟩⟩
    obtain ⟨R2, e2⟩ := R.back R' e'
    exact k y q g' ρ H' (.ref x) R2 e2 (r'.mono (Up.weak fun b z => bad_back z))
  · intro g' H' cls d Rn xe rx
    have no : ∀ b o, H b = some o → ¬ Own g [] [] b → ¬ Own g [x] [.ins c []] b := fun b o a n z => (own_one.mp z).elim (fun z => n (Own.nil.mpr z)) (ne_of_none a h1)
    exact (hx y z).call g' H' cls d Rn ⟨fun b o a i => xe.imm b o (kp b o a) i, fun b o a n => xe.keep b o (kp b o a) (no b o a n), fun b o a n => xe.own b o (kp b o a) (no b o a n), xe.gh⟩ rx
end
section
variable {E : XK} {X : Cx} {k : Nat} {m : MF} {c : Str} {st : Stmt} {ps ks : List Str} {idx : List Nat} {e o : Expr} {es : List Expr} {kws : List Keyword} {t : MA} {p pos pos2 : Pos} {mo mv ma mb : MX}
theorem me_make (Z : Ini X.prog X.w X.K X.mg X.base c st ps k m) (tk : Takes X (fun cls d _ H => E cls d H)) (hgd : X.A.guards = some []) (hr : Room (k + 1) X.A) (ha : MAJ E X (e :: es) t)
    (hn : (e :: es).length = ps.length := by rfl) (hg : Gl X c := by rfl) (hdb : (c == ("__debug__" : Str)) = false := by decide) (he : starEach (e :: es) X.env = (false, eval e X.env) :: starEach es X.env := by rfl) (hpl : (backTo pos (starEach es X.env)).any (·.1) = false := by rfl) : ME E X (.Call (.Name c p) (e :: es) [] pos) (mCall m t) := by
  obtain ⟨f, fd, Ca, F, M, gm, _, bn⟩ := Z.ex
  refine ⟨PE.imp (pe_makeG M F hgd hr hg gm bn (fun σ => passAt tk σ) ha.pa hdb he hpl) fun σ H Q ⟨g, B0, ρ, env, S, R, N, q⟩ => ?_, fun env S Q Q' E E' h hx q => ha.mono _ _ _ _ _ _ (fun w S' ⟨ds, a, b⟩ => ⟨ds, a, Z.mono _ _ _ _ _ (fun x z => h _ _ z) hx b⟩) hx q⟩
  refine tMA.go ha.mono R N (ha.len _ _ _ _ q) (fun _ z => z) fun ws S1 ⟨hl, ds, hd, q1⟩ g1 ρ1 H1 vs R1 e1 r1 => ?_
  intro x dx h1 h2 h3
  exact make_go Z.mono (by rw [← Paired.len r1, hl]; exact hn) gm R1 (Paired.rws r1 hd) q1 (fun x z => z.ext e1) (fun y z g' ρ' H' v R' e' r' => z g' ρ' H' v R' (e1.trans e') r') h1 h2 h3
theorem me_makeK (Z : Ini X.prog X.w X.K X.mg X.base c st ps k m) (bd : ∀ (fd : FuncData) (f : Addr) (q : Str), Fun X.K "__init__" q st f fd → ∀ (s : Shared) (a : Addr) (ws : List Value), ws.length = ks.length → BindsTo s fd ⟨[.ref a], ks.zip ws⟩ ((("self" : Str) :: ps).zip (.ref a :: permG idx [] ws)))
    (tk : Takes X (fun cls d _ H => E cls d H)) (hgd : X.A.guards = some []) (hr : Room (k + 1) X.A) (ha : MKJ E X kws t) (hn : kws.length = ks.length := by rfl) (hg : Gl X c := by rfl) (hall : (backToKw pos (keywordEach kws X.env)).all (·.1.isSome) = true := by rfl) (hks : (backToKw pos (keywordEach kws X.env)).filterMap (·.1) = ks := by rfl) (hdb : (c == ("__debug__" : Str)) = false := by decide)
    (hpl : ((backTo pos (starEach [] X.env)).any (·.1) || (backToKw pos (keywordEach kws X.env)).any (·.1.isNone)) = false := by rfl) : ME E X (.Call (.Name c p) [] kws pos) (fun env S Q E => t env S (fun ws S1 => ∃ ds, datas ws = some ds ∧ ds.length = ks.length ∧ (idx.filterMap fun i => ds[i]?).length = ps.length ∧ m (idx.filterMap fun i => ds[i]?) (fun x => Q (.d x) S1) E) E) := by
  obtain ⟨f, fd, Ca, F, M, gm, ⟨q, hF⟩, bn⟩ := Z.ex
  refine ⟨PE.imp (pe_makeKG (idx := idx) M F hgd hr hg gm (bd fd f q hF) (fun σ => passAt tk σ) ha.pk hn hall hks hdb hpl) fun σ H Q ⟨g, B0, ρ, env, S, R, N, q⟩ => ?_, fun env S Q Q' E E' h hx q => ha.mono _ _ _ _ _ _ (fun w S' ⟨ds, a, l1, l2, b⟩ => ⟨ds, a, l1, l2, Z.mono _ _ _ _ _ (fun x z => h _ _ z) hx b⟩) hx q⟩
  refine tMA.go ha.mono R N q (fun _ z => z) fun ws S1 ⟨ds, hd, l1, l2, q1⟩ g1 ρ1 H1 vs R1 e1 r1 => ?_
  have r2 := Paired.rws r1 hd
  have rp := r2.perm idx
  refine ⟨by rw [← r2.length]; exact l1, fun x dx h1 h2 h3 => ?_⟩
  exact make_go Z.mono (by rw [← rp.length]; exact l2) gm R1 rp q1 (fun x z => z.ext e1) (fun y z g' ρ' H' v R' e' r' => z g' ρ' H' v R' (e1.trans e') r') h1 h2 h3
/-! ### self.f = e -/
def putW (f : Str) (w : W) : List (Str × W) → List (Str × W)
  | [] => [(f, w)]
  | (g, x) :: r => if g = f then (g, w) :: r else (g, x) :: putW f w r
theorem putW_len (f : Str) (w : W) : ∀ fs : List (Str × W), (putW f w fs).length ≤ fs.length + 1
  | [] => Nat.le_refl _
  | (g, x) :: r => by
    have := putW_len f w r
    unfold putW
    split <;> simp only [List.length_cons] <;> omega
theorem paired_put {F : W → V → Prop} {f : Str} {w : W} {v : V} (h : F w v) : ∀ {fs : List (Str × W)} {fvs : List (Str × V)}, Paired (fun (p : Str × W) (q : Str × V) => p.1 = q.1 ∧ F p.2 q.2) fs fvs → Paired (fun (p : Str × W) (q : Str × V) => p.1 = q.1 ∧ F p.2 q.2) (putW f w fs) (putF f v fvs)
  | [], _, p => by
    cases p
    exact .cons ⟨rfl, h⟩ .nil
  | (g, x) :: fs, _, p => by
    cases p with
    | cons a t =>
      rename_i q qs
      obtain ⟨n2, u⟩ := q
      obtain ⟨e, hv⟩ := a
      have e' : g = n2 := e
      subst e'
      unfold putW putF
      by_cases hg : g = f
      · rw [if_pos hg, if_pos hg]
        exact .cons ⟨rfl, h⟩ t
      · rw [if_neg hg, if_neg hg]
        exact .cons ⟨rfl, hv⟩ (paired_put h t)
/-- what the written part says of an own class -/
structure ClsF (K : PySem.W.Frag) (mg : Str → Option Value) (c : Str) (fl : List Str) : Prop where
  ex : ∃ Ca, mg c = some (.ref Ca) ∧ Cls K Ca ∧ ∀ f ∈ fl, NoAttr K Ca f
def sFldS (c f : Str) (mo mv : MX) : MS := fun K env S => mv env S (fun w S1 => mo env S1 (fun u S2 => ∃ j fs, u = .ref j ∧ S2[j]? = some (.ins c fs) ∧ fs.length < 1000 ∧ K.nx env (S2.set j (.ins c (putW f w fs)))) K.ex) K.ex
theorem ms_fldS {f : Str} {fl : List Str} (hC : ClsF X.K X.mg c fl) (hf : f ∈ fl) (ho : ME E X o mo) (hv : ME E X e mv) (hs : swapsWith e (some (.Attribute o f pos2)) pos.line X.env = pure false := by rfl) : MSJ E X (.Assign [.Attribute o f pos2] e pos) (sFldS c f mo mv) := by
  refine ⟨PS.imp (ps_fld ho.pe hv.pe hs) fun D' σ H ⟨g, B0, ρ, env, S, R, N, q⟩ => ?_, fun K K' env S k h => hv.mono _ _ _ _ _ _ (fun w S' z => ho.mono _ _ _ _ _ _ (fun u S2 ⟨j, fs, a, b, l, z⟩ => ⟨j, fs, a, b, l, k.nx _ _ z⟩) k.ex z) k.ex h⟩
  refine tM.go hv.mono R N q (fun _ z => z) fun w S1 q1 g1 ρ1 H1 v1 R1 e1 r1 => ?_
  refine tM.go ho.mono R1 (N.ext e1) q1 (fun x z => z.ext e1) fun u S2 ⟨j, fs, eu, hs2, hl, q2⟩ g2 ρ2 H2 v2 R2 e2 r2 => ?_
  subst eu
  obtain ⟨a, ha, ev⟩ := r2
  subst ev
  obtain ⟨Ca, hm, cl, na⟩ := hC.ex
  obtain ⟨Ca', dx, fvs, hm', h1, h2, p⟩ := R2.obj j _ a hs2 ha
  cases hm.symm.trans hm'
  have bad : Bad g2 B0 ρ2 S2 a := .inr (.inr ⟨j, _, hs2, rfl, ha⟩)
  have ne : dx ≠ a := fun z => by rw [z, h1] at h2; cases h2
  have u : Up g2 (Bad g2 B0 ρ2 S2) H2 g2 (Bad g2 B0 ρ2 S2) (upd H2 a (.ins Ca dx (putF f v1 fvs))) := ⟨fun b o e im => by
    rw [upd_ne (show b ≠ a from fun z => by rw [z, h1] at e; cases e; exact im)]; exact e, fun b o e n => ⟨by rw [upd_ne (show b ≠ a from fun z => n (by rw [z]; exact bad))]; exact e, n⟩, .refl⟩
  have pp := paired_put (f := f) (F := RW (ctx X) g2 (Bad g2 B0 ρ2 S2) ρ2 H2) (r1.ext e2) p
  obtain ⟨R3, e3⟩ := R2.write (u := .ins Ca dx (putF f v1 fvs)) (o := .ins c (putW f w fs)) hs2 rfl ha rfl h1 (fun z => z) ⟨Ca, dx, _, hm', upd_same, by rw [upd_ne ne]; exact h2, Paired.mapP pp fun _ _ q => ⟨q.1, q.2.mono u ⟨[], by simp⟩⟩⟩
  exact ⟨a, Ca, dx, fvs, rfl, h1, cl, na f hf, by rw [← Paired.len p]; exact hl, q2 g2 ρ2 _ σ R3 ((e1.trans e2).trans e3) (((N.ext e1).ext e2).ext e3)⟩
/-! ### e.f -/
def mFldI (cs : List Str) (f : Str) (m : MX) : MX := fun env S Q E => m env S (fun w S1 => ∃ c fs d, w = .d (.ins c fs) ∧ c ∈ cs ∧ fs.lookup f = some d ∧ Q (.d d) S1) E
theorem me_fldI {cs : List Str} {f : Str} (hC : ∀ c ∈ cs, ∃ fl, ClsF X.K X.mg c fl ∧ f ∈ fl) (ha : ME E X e ma) (hb : attributeBase e f X.env (eval e X.env) = eval e X.env := by rfl) : ME E X (.Attribute e f pos) (mFldI cs f ma) := by
  refine ⟨PE.imp (pe_fld ha.pe hb) fun σ H Q ⟨g, B0, ρ, env, S, R, N, q⟩ => ?_, fun env S Q Q' E E' h hx q => ha.mono _ _ _ _ _ _ (fun w S' ⟨c, fs, d, a, b, l, z⟩ => ⟨c, fs, d, a, b, l, h _ _ z⟩) hx q⟩
  refine tM.go ha.mono R N q (fun _ z => z) fun w S1 ⟨c, fs, d, ew, hc, hl, q1⟩ g1 ρ1 H1 v1 R1 e1 r1 => ?_
  subst ew
  obtain ⟨fl, hF, hf⟩ := hC c hc
  obtain ⟨Ca, hm, cl, na⟩ := hF.ex
  cases (show RV _ _ _ _ (.ins c fs) _ from r1) with
  | ins hm' h1 h2 nb rf =>
    cases hm.symm.trans hm'
    obtain ⟨v, hv, rv⟩ := rf.look hl
    exact ⟨_, Ca, _, _, v, rfl, h1, cl, na f hf, hv, q1 _ _ _ _ R1 e1 rv⟩
end
end RW
namespace RW
open PySem PySem.Spec PyProof.Rows L2
variable [Tbl]
/-! isinstance with an own class; == by an own __eq__ -/
structure InsC (K : PySem.W.Frag) (D : Addr) : Prop where
  cl : Cls K D
  ha : PySem.W.findIn K (.ref D) "__class__" = some (some (.builtin "object.__class__"))
  hn : PySem.W.specialIn K (.builtin "object.__class__") "__get__" = some (some (.builtin "getset_descriptor.__get__"))
  ht : PySem.W.takesIn K (.builtin "object.__class__") = some true
  hm : PySem.W.mroIn K D (.type "object") = some true
/-- what the written part says of isinstance with the own class n -/
structure OwnIs (K : PySem.W.Frag) (mg : Str → Option Value) (cs : List Str) (n : Str) (Cn : Addr) : Prop where
  g : mg n = some (.ref Cn)
  ty : ∀ T ∈ baseTs, PySem.W.kitOne K (.type T) (.ref Cn) = some false
  ex : ∀ c ∈ cs, ∀ Ca, mg c = some (.ref Ca) → InsC K Ca ∧ PySem.W.kitOne K (.ref Ca) (.ref Cn) = some (c == n)
def isOD (n : Str) (d : D) : Bool := match d with
  | .ins c _ => c == n
  | _ => false
def okIo (cs : List Str) (d : D) : Prop := match d with
  | .ins c _ => c ∈ cs
  | _ => (tyNm d).isSome = true
def mIsO (cs : List Str) (n : Str) (m : MX) : MX := fun env S Q E => m env S (fun w S1 => ∃ d, rd S1 w = some d ∧ okIo cs d ∧ Q (.d (.bl (isOD n d))) S1) E
/-- a value's class, by data -/
def clsD (mg : Str → Option Value) (d : D) (t : Value) : Prop := match d with
  | .ins c _ => mg c = some t
  | _ => ∃ T, tyNm d = some T ∧ t = .type T
theorem RR.tyo {C : Cxt} {g : Gh} {B : Addr → Prop} {H : Hp} {d : D} {v : V} {cs : List Str} (h : RR C g B H d v) (ok : okIo cs d) (hI : ∀ c ∈ cs, ∀ Ca, C.mg c = some (.ref Ca) → InsC C.K Ca) (hd : DrIs C g H) : ∃ t, TyZ C.K H v t ∧ clsD C.mg d t := by
  have base : ∀ {U : String}, tyNm d = some U → (∀ c fs, d ≠ .ins c fs) → ∃ t, TyZ C.K H v t ∧ clsD C.mg d t := fun {U} ht hn => ⟨_, h.tyx ht hd, by
    cases d with
    | ins c fs => exact absurd rfl (hn c fs)
    | _ => exact ⟨U, ht, rfl⟩⟩
  cases d with
  | ins c fs =>
    cases h with
    | rv h =>
      cases h with
      | ins hm h1 h2 nb rf =>
        have z := hI c ok _ hm
        exact ⟨_, .x <| .base (.ins h1 z.cl z.ha z.hn z.ht z.hm), hm⟩
  | non => exact base rfl fun _ _ z => nomatch z
  | bl b => exact base rfl fun _ _ z => nomatch z
  | int b => exact base rfl fun _ _ z => nomatch z
  | str b => exact base rfl fun _ _ z => nomatch z
  | tup b => exact base rfl fun _ _ z => nomatch z
  | lst b => exact base rfl fun _ _ z => nomatch z
  | dic b => exact base rfl fun _ _ z => nomatch z
  | drw => exact base rfl fun _ _ z => nomatch z
  | _ => simp [okIo, tyNm] at ok
section
variable {E : XK} {X : Cx}
theorem me_isO {cs : List Str} {n : Str} {Cn : Addr} {a : Expr} {ma : MX} {p p2 pos : Pos} (hC : OwnIs X.K X.mg cs n Cn) (hm : X.mg "isinstance" = none) (ha : ME E X a ma) (hg : Gl X "isinstance" := by rfl) (hg2 : Gl X n := by rfl) (hdb : (n == ("__debug__" : Str)) = false := by decide)
    (he : starEach [a, .Name n p2] X.env = (false, eval a X.env) :: starEach [.Name n p2] X.env := by rfl) (he2 : starEach [.Name n p2] X.env = (false, eval (.Name n p2) X.env) :: starEach [] X.env := by rfl)
    (hpl : (backTo pos (starEach [.Name n p2] X.env)).any (·.1) = false := by rfl) : ME E X (.Call (.Name "isinstance" p) [a, .Name n p2] [] pos) (mIsO cs n ma) := by
  refine ⟨PE.imp (pe_callB call_isY hg hm boot_isinstance (pa_cons ha.pe (pa_cons (pe_glob (v := .ref Cn) hg2 hC.g rfl hdb) pa_nil he2) he) (by decide) (by decide) he hpl) fun σ H Q ⟨g, B0, ρ, env, S, R, N, q⟩ => ?_,
    fun env S Q Q' E E' h hx q => ha.mono _ _ _ _ _ _ (fun w S' ⟨x, a, b, z⟩ => ⟨x, a, b, h _ _ z⟩) hx q⟩
  refine tM.go ha.mono R N q (fun _ z => z) fun w S1 ⟨d, hd, hs, q1⟩ g1 ρ1 H1 v1 R1 e1 r1 => ?_
  obtain ⟨t, ty, ct⟩ := (R1.rd r1 hd).tyo hs (fun c hc Ca e => (hC.ex c hc Ca e).1) R1.dr
  refine ⟨v1, Cn, t, isOD n d, rfl, .x ty, ?_, q1 _ _ _ _ R1 e1 (RV.bl _)⟩
  have base : ∀ {U : String}, tyNm d = some U → isOD n d = false → t = .type U → PySem.W.kitOne X.K t (.ref Cn) = some (isOD n d) := fun {U} ht hf et => by rw [hf, et]; exact hC.ty U (tyNm_base ht)
  cases d with
  | ins c fs =>
    have z : X.mg c = some t := ct
    have rv := (R1.rd r1 hd).toRV fun _ => by simp
    cases rv with
    | ins hm' h1 h2 nb rf =>
      have e := hm'.symm.trans z
      cases e
      exact (hC.ex c hs _ z).2
  | non => obtain ⟨T, h1, h2⟩ := ct; exact base h1 rfl h2
  | bl b => obtain ⟨T, h1, h2⟩ := ct; exact base h1 rfl h2
  | int b => obtain ⟨T, h1, h2⟩ := ct; exact base h1 rfl h2
  | str b => obtain ⟨T, h1, h2⟩ := ct; exact base h1 rfl h2
  | tup b => obtain ⟨T, h1, h2⟩ := ct; exact base h1 rfl h2
  | lst b => obtain ⟨T, h1, h2⟩ := ct; exact base h1 rfl h2
  | dic b => obtain ⟨T, h1, h2⟩ := ct; exact base h1 rfl h2
  | drw => obtain ⟨T, h1, h2⟩ := ct; exact base h1 rfl h2
  | _ => simp [okIo, tyNm] at hs
/-- isinstance(x, (T1, T2)), built-in types -/
def mIsi2 (T1 T2 : String) (m : MX) : MX := fun env S Q E => m env S (fun w S1 => ∃ d, rd S1 w = some d ∧ (tyNm d).isSome = true ∧ Q (.d (.bl (isiB T1 d || isiB T2 d))) S1) E
theorem me_isi2 {T1 T2 : String} {a : Expr} {ma : MX} {kk : Nat} {p p1 p2 pt pos : Pos} (hT1 : plainT T1 = true) (hT2 : plainT T2 = true) (hm : X.mg "isinstance" = none) (hm1 : X.mg (Str.ofString T1) = none) (hm2 : X.mg (Str.ofString T2) = none) (hv1 : bootBuiltins (Str.ofString T1) = some (.type T1)) (hv2 : bootBuiltins (Str.ofString T2) = some (.type T2)) (ha : ME E X a ma)
    (hg : Gl X "isinstance" := by rfl) (hg1 : Gl X (Str.ofString T1) := by rfl) (hg2 : Gl X (Str.ofString T2) := by rfl) (hn1 : (Str.ofString T1) ≠ "__name__" := by decide) (hn2 : (Str.ofString T2) ≠ "__name__" := by decide) (hd1 : ((Str.ofString T1) == ("__debug__" : Str)) = false := by decide) (hd2 : ((Str.ofString T2) == ("__debug__" : Str)) = false := by decide)
    (ht1 : starEach [.Name (Str.ofString T1) p1, .Name (Str.ofString T2) p2] X.env = (false, eval (.Name (Str.ofString T1) p1) X.env) :: starEach [.Name (Str.ofString T2) p2] X.env := by rfl) (ht2 : starEach [.Name (Str.ofString T2) p2] X.env = (false, eval (.Name (Str.ofString T2) p2) X.env) :: starEach [] X.env := by rfl)
    (he : starEach [a, .Tuple [.Name (Str.ofString T1) p1, .Name (Str.ofString T2) p2] kk pt] X.env = (false, eval a X.env) :: starEach [.Tuple [.Name (Str.ofString T1) p1, .Name (Str.ofString T2) p2] kk pt] X.env := by rfl)
    (he2 : starEach [.Tuple [.Name (Str.ofString T1) p1, .Name (Str.ofString T2) p2] kk pt] X.env = (false, eval (.Tuple [.Name (Str.ofString T1) p1, .Name (Str.ofString T2) p2] kk pt) X.env) :: starEach [] X.env := by rfl)
    (hpl : (backTo pos (starEach [.Tuple [.Name (Str.ofString T1) p1, .Name (Str.ofString T2) p2] kk pt] X.env)).any (·.1) = false := by rfl) :
    ME E X (.Call (.Name "isinstance" p) [a, .Tuple [.Name (Str.ofString T1) p1, .Name (Str.ofString T2) p2] kk pt] [] pos) (mIsi2 T1 T2 ma) := by
  refine ⟨PE.imp (pe_callB call_isZT hg hm boot_isinstance (pa_cons ha.pe (pa_cons (pe_tup (pa_cons (me_ty hm1 hv1 hg1 hn1 hd1) (pa_cons (me_ty hm2 hv2 hg2 hn2 hd2) pa_nil ht2) ht1)) pa_nil he2) he) (by decide) (by decide) he hpl) fun σ H Q ⟨g, B0, ρ, env, S, R, N, q⟩ => ?_,
    fun env S Q Q' E E' h hx q => ha.mono _ _ _ _ _ _ (fun w S' ⟨x, a, b, z⟩ => ⟨x, a, b, h _ _ z⟩) hx q⟩
  refine tM.go ha.mono R N q (fun _ z => z) fun w S1 ⟨d, hd, hs, q1⟩ g1 ρ1 H1 v1 R1 e1 r1 => ?_
  refine ⟨by show 2 ≤ sizeLine; decide, fun tp htp => ?_⟩
  obtain ⟨R2, e2, _⟩ := R1.new (o := .tup [.ty T1, .ty T2]) htp
  cases ht : tyNm d with
  | none => rw [ht] at hs; cases hs
  | some U =>
    have k1 : PySem.W.kitOne X.K (.type U) (.type T1) = some (isiB T1 d) := kit_ty (kitB_isi hT1 ht)
    have k2 : PySem.W.kitOne X.K (.type U) (.type T2) = some (isiB T2 d) := kit_ty (kitB_isi hT2 ht)
    refine ⟨v1, tp, [.ty T1, .ty T2], .type U, [.type T1, .type T2], (isiB T1 d || isiB T2 d), rfl, upd_same, .cons (.ty T1) (.cons (.ty T2) .nil), (R2.rd (r1.ext e2) (by exact hd)).tyx ht R2.dr, ?_, q1 _ _ _ _ R2 (e1.trans e2) (RV.bl _)⟩
    refine kitAny_cons k1 (fun z => ?_) fun z => by rw [z]; rfl
    rw [z, Bool.false_or]
    exact kitAny_cons k2 (fun z => by rw [z]; exact kitAny_nil) fun z => z
end
end RW
namespace RW
open PySem PySem.Spec PyProof.Rows L2
variable [Tbl]
section
variable {X : Cx} {k : Nat} {f Ca : Addr} {fd : FuncData} {sp : Sp}
/-- the own == of x, asked within a builtin or outside -/
theorem run_at {A : Around} {pinned : List (Addr × Obj)} {σ : L2.St} {H : Hp} {st : Shared} {Q : VK} {us : List Value} {vs : List V} {ps : List Str} (F : FnG X.prog X.w X.K X.mg X.base (L2.CX X.prog X.w) k f fd ps sp) (fr : A.frames = X.A.frames) (gd : A.guards = some []) (room : Room k A) (bd : Binds X.K fd ps []) (I : Inv X pinned σ H st) (r : Vals vs us)
    (h : sp vs H Q (fun _ _ _ => False)) : wpAny (model X.prog X.w) A (call (.ref f) us) (EP X pinned σ Q) X.xe st := by
  have hl : us.length = ps.length := by rw [← r.length]; exact F.len _ _ _ _ h
  have b := bd st us I.kIn (by rw [List.append_nil]; exact hl)
  rw [List.append_nil] at b
  have e := I.env0
  have e0 : Env0 X.prog X.w X.K X.mg X.base A X.stack st H := ⟨by rw [fr]; exact e.frames, e.mod, e.bs, e.bsz, e.funs, e.frf, e.hok, e.bare⟩
  refine wpAny_call (codeAny_mono (F.run A X.stack st H ⟨us, []⟩ us vs Q _ room gd e0 b r h) fun r s' hq => ?_)
  match r, hq with
  | .error e, hq =>
    obtain ⟨_, _, _, _, _, _, _, _, _, _, _, _, z⟩ := hq
    exact z.elim
  | .ok .next, hq => exact hq.elim
  | .ok .brk, hq => exact hq.elim
  | .ok .cont, hq => exact hq.elim
  | .ok (.ret u), hq => exact I.after hq
/-- x == y, x an instance with its own ==, y of a class that is none of its -/
def rEqI (K : PySem.W.Frag) (Ca : Addr) (sp : Sp) : R2 := fun x y H Q => ∃ a dx fvs t, x = .ref a ∧ H a = some (.ins Ca dx fvs) ∧ TyZ K H y t ∧ PySem.W.notFirst K Ca t = true ∧ sp [x, y] H (fun v H' => ∃ b, v = .bl b ∧ Q (.bl b) H') fun _ _ _ => False
theorem op_eqI (F : FnG X.prog X.w X.K X.mg X.base (L2.CX X.prog X.w) k f fd ["self", "other"] sp) (gd : X.A.guards = some []) (room : Room k X.A) (hs : PySem.W.findIn X.K (.ref Ca) "__eq__" = some (some (.ref f))) (hf : PySem.W.isFn X.K (.ref f) = true) (bd : Binds X.K fd ["self", "other"] []) : OpR X (compareOp .Eq) (rEqI X.K Ca sp) := by
  intro pinned st σ H x y v u Q I rx ry h
  obtain ⟨a, dx, fvs, t, rfl, ha, ty, nf, q⟩ := h
  cases rx
  obtain ⟨mA, J, _⟩ := ins_get I.hok ha
  obtain ⟨od, J, _⟩ := J.look
  obtain ⟨m, hF⟩ := I.fr
  obtain ⟨P, Z, pz, _⟩ := kit_ofZ I ry ty
  show wpAny _ X.A (richCompare .Eq (.ref a) u) _ _ _
  refine PySem.W.cmp_K (op := .Eq) room.units0 hF I.ok.mod.kin J (Z.ty _ _ I.kIn pz) nf hs hf ?_
  refine wpAny_mono (run_at F rfl gd room bd I (show Vals [V.ref a, y] [Value.ref a, u] from .cons rfl (.cons ry .nil)) q) (fun z s' w => ?_) fun _ _ e => e
  obtain ⟨v, H', J2, rz, b, ev, q2⟩ := w
  subst ev
  cases (show z = Value.bool b from rz)
  exact ⟨.bl b, H', J2, rfl, q2⟩
/-- the class: below object alone, with an own == and no own != -/
structure EqShape (K : PySem.W.Frag) (Ca f : Addr) : Prop where
  ex : ∃ nm q N bs hdct sn sub ab col dd k0 k1 k2 k3 k5 nid, K.lookup Ca = some (excClassObj nm q Ca N bs [.type "object"] hdct sn sub ab col dd k0 k1 k2 k3 k5 nid) ∧ PySem.W.nsOkIn K N = true ∧ PySem.W.nsIn K N "__eq__" = some (some (.ref f)) ∧ PySem.W.nsIn K N "__ne__" = some none
  fn : ∃ o, K.lookup f = some o ∧ o.cls = .type "function"
theorem ns_val_of {K : PySem.W.Frag} {h : Heap} {N : Addr} {m : Str → Option Value} {n : Str} {v : Value} (X : K.In h) (G : h.Ns N m) (e : PySem.W.nsIn K N n = some (some v)) : m n = some v := by
  obtain ⟨o, es, ep, ho, hd, _, hf⟩ := G
  unfold PySem.W.nsIn at e
  split at e
  · rename_i c d es' n' sl q
    have z := X _ _ q
    rw [ho] at z
    cases z
    cases hd
    split at e
    · rename_i en he
      rw [← hf]
      unfold nsFind findBy
      rw [← Array.find?_toList, he]
      cases e
      rfl
    · split at e <;> cases e
  · cases e
theorem EqShape.at_ {K : PySem.W.Frag} {h : Heap} {x : Addr} {o : Obj} (S : EqShape K Ca f) (kin : K.In h) (hx : h.get? x = some o) (hc : o.cls = .ref Ca) : h.OwnEqNoNe x Ca f "object" [.type "object"] := by
  obtain ⟨nm, q, N, bs, hdct, sn, sub, ab, col, dd, k0, k1, k2, k3, k5, nid, hC, hN, h1, h2⟩ := S.ex
  obtain ⟨of, hf, hfc⟩ := S.fn
  have G : h.Ns N (h.nsMap N) := .of_isNs (PySem.W.isNs_of_in kin hN)
  exact ⟨o, of, nm, q, N, bs, hdct, sn, sub, ab, col, dd, k0, k1, k2, k3, k5, nid, h.nsMap N, _, hx, hc, kin _ _ hC, G, ns_val_of kin G h1, kin _ _ hf, hfc, F.cmp_object.mro, F.cmp_object.eq.lookup, PySem.W.ns_none_of kin G h2⟩
def rNeI (Ca : Addr) (sp : Sp) : R2 := fun x y H Q => ∃ a b dx dy fvs gvs, x = .ref a ∧ y = .ref b ∧ H a = some (.ins Ca dx fvs) ∧ H b = some (.ins Ca dy gvs) ∧ sp [x, y] H (fun v H' => ∃ b, v = .bl b ∧ Q (.bl (!b)) H') fun _ _ _ => False
theorem op_neI (F : FnG X.prog X.w X.K X.mg X.base (L2.CX X.prog X.w) k f fd ["self", "other"] sp) (gd : X.A.guards = some []) (room : Room (k + 1) X.A) (S : EqShape X.K Ca f) (bd : Binds X.K fd ["self", "other"] []) : OpR X (compareOp .NotEq) (rNeI Ca sp) := by
  intro pinned st σ H x y v u Q I rx ry h
  obtain ⟨a, b, dx, dy, fvs, gvs, rfl, rfl, ha, hb, q⟩ := h
  cases rx
  cases ry
  obtain ⟨mA, Ja, _⟩ := ins_get I.hok ha
  obtain ⟨oda, Ja, _⟩ := Ja.look
  obtain ⟨mB, Jb, _⟩ := ins_get I.hok hb
  obtain ⟨odb, Jb, _⟩ := Jb.look
  have E := S.at_ (x := a) I.kIn Ja.1 Ja.cls
  obtain ⟨hp, g, d, tk, os⟩ := st
  refine compareOp_ne_ownEq PySem.F.cmp_object E Jb.1 Jb.cls (by have := room.units; omega) ?_
  refine wpAny_mono (run_at (A := X.A.in1) F rfl gd room.in1 bd I (show Vals [V.ref a, V.ref b] [Value.ref a, Value.ref b] from .cons rfl (.cons rfl .nil)) q) (fun z s' w => ?_) fun _ _ e => e
  obtain ⟨v, H', J2, rz, b, ev, q2⟩ := w
  subst ev
  exact ⟨b, rz, .bl (!b), H', J2, rfl, q2⟩
end
end RW
namespace RW
open PySem PySem.Spec PyProof.Rows L2
variable [Tbl]
/-- an own ==, by its mirror -/
structure EqF (P : Program) (w : World) (K : PySem.W.Frag) (mg : Str → Option Value) (base : Heap) (cs : List Str) (c : Str) (k : Nat) (m : MF) : Prop where
  mono : MonoF m
  ex : ∃ f fd Ca, FnG P w K mg base (L2.CX P w) k f fd ["self", "other"] (spF ⟨K, mg, Tbl.tabs⟩ 2 m) ∧ mg c = some (.ref Ca) ∧ PySem.W.findIn K (.ref Ca) "__eq__" = some (some (.ref f)) ∧ PySem.W.isFn K (.ref f) = true ∧ Binds K fd ["self", "other"] [] ∧ EqShape K Ca f ∧
    (∀ T ∈ baseTs, PySem.W.notFirst K Ca (.type T) = true) ∧ ∀ c' ∈ cs, ∀ Cb, mg c' = some (.ref Cb) → InsC K Cb ∧ PySem.W.notFirst K Ca (.ref Cb) = true
def mEqI (c : Str) (cs : List Str) (m : MF) (ma mb : MX) : MX := fun env S Q E => ma env S (fun w1 S1 => mb env S1 (fun w2 S2 => ∃ fs b, w1 = .d (.ins c fs) ∧ w2 = .d b ∧ okIo cs b ∧ m [.ins c fs, b] (fun x => ∃ k, x = .bl k ∧ Q (.d (.bl k)) S2) fun _ => False) E) E
def mNeI (c : Str) (m : MF) (ma mb : MX) : MX := fun env S Q E => ma env S (fun w1 S1 => mb env S1 (fun w2 S2 => ∃ fs gs, w1 = .d (.ins c fs) ∧ w2 = .d (.ins c gs) ∧ m [.ins c fs, .ins c gs] (fun x => ∃ k, x = .bl k ∧ Q (.d (.bl (!k))) S2) fun _ => False) E) E
section
variable {E : XK} {X : Cx} {k : Nat} {m : MF} {c : Str} {cs : List Str} {a b : Expr} {ma mb : MX} {pos : Pos}
theorem mono_EqI (hm : MonoF m) (ha : MonoX ma) (hb : MonoX mb) : MonoX (mEqI c cs m ma mb) := fun env S Q Q' E E' h hx q => ha _ _ _ _ _ _ (fun w1 S1 z => hb _ _ _ _ _ _ (fun w2 S2 ⟨fs, y, e1, e2, e3, z⟩ => ⟨fs, y, e1, e2, e3, hm _ _ _ _ _ (fun x ⟨k, e, z⟩ => ⟨k, e, h _ _ z⟩) (fun _ z => z) z⟩) hx z) hx q
theorem mono_NeI (hm : MonoF m) (ha : MonoX ma) (hb : MonoX mb) : MonoX (mNeI c m ma mb) := fun env S Q Q' E E' h hx q => ha _ _ _ _ _ _ (fun w1 S1 z => hb _ _ _ _ _ _ (fun w2 S2 ⟨fs, y, e1, e2, z⟩ => ⟨fs, y, e1, e2, hm _ _ _ _ _ (fun x ⟨k, e, z⟩ => ⟨k, e, h _ _ z⟩) (fun _ z => z) z⟩) hx z) hx q
theorem eq_go {f Ca : Addr} {fd : FuncData} (mm : MonoF m) (gm : X.mg c = some (.ref Ca)) (nf : ∀ T ∈ baseTs, PySem.W.notFirst X.K Ca (.type T) = true) (nc : ∀ c' ∈ cs, ∀ Cb, X.mg c' = some (.ref Cb) → InsC X.K Cb ∧ PySem.W.notFirst X.K Ca (.ref Cb) = true) (ha : ME E X a ma) (hb : ME E X b mb) (σ : L2.St) (H : Hp) (Q : VK)
    (h : tM (ctx X) E (mEqI c cs m ma mb) σ H Q) : tM (ctx X) E ma σ H fun x H1 => tM (ctx X) E mb σ H1 fun y H2 => rEqI X.K Ca (spF (ctx X) 2 m) x y H2 Q := by
  obtain ⟨g, B0, ρ, env, S, R, N, q⟩ := h
  refine tM.go ha.mono R N q (fun _ z => z) fun w1 S1 q1 g1 ρ1 H1 v1 R1 e1 r1 => ?_
  refine ⟨g1, B0, ρ1, env, S1, R1, N.ext e1, hb.mono _ _ _ _ _ _ (fun w2 S2 ⟨fs, y, ew1, ew2, ok, q2⟩ => ?_) (fun x z => z.ext e1) q1⟩
  intro g2 ρ2 H2 v2 R2 e2 r2
  subst ew1 ew2
  have ra : RV (ctx X) g2 (Bad g2 B0 ρ2 S2) H2 (.ins c fs) v1 := r1.ext e2
  have rb : RV (ctx X) g2 (Bad g2 B0 ρ2 S2) H2 y v2 := r2
  obtain ⟨t, ty, ct⟩ := (RR.rv rb).tyo ok (fun c hc Cb e => (nc c hc Cb e).1) R2.dr
  have nt : PySem.W.notFirst X.K Ca t = true := by
    cases y with
    | ins c' fs' =>
      have z : X.mg c' = some t := ct
      cases rb with
      | ins hm' _ _ _ _ =>
        have e := hm'.symm.trans z
        cases e
        exact (nc c' ok _ z).2
    | _ => obtain ⟨T, hT, rfl⟩ := ct; exact nf T (tyNm_base hT)
  have spf : spF (ctx X) 2 m [v1, v2] H2 (fun v H' => ∃ b, v = .bl b ∧ Q (.bl b) H') (fun _ _ _ => False) := call_go mm (ctx X) rfl R2 (.cons ra (.cons rb .nil)) q2 (fun _ z => z.elim) fun x ⟨kk, ex, z⟩ g' ρ' H' v R' e' r' => by
    subst ex
    cases (show RV _ _ _ _ (.bl kk) v from r')
    exact ⟨kk, rfl, z g' ρ' H' _ R' ((e1.trans e2).trans e') (RV.bl _)⟩
  cases ra with
  | ins hm' h1 _ _ _ =>
    have e := gm.symm.trans hm'
    cases e
    exact ⟨_, _, _, t, rfl, h1, ty, nt, spf⟩
theorem me_eqI (Z : EqF X.prog X.w X.K X.mg X.base cs c k m) (hgd : X.A.guards = some []) (hr : Room k X.A) (ha : ME E X a ma) (hb : ME E X b mb) (hm : behindInMarks .Eq b = false := by first | exact nomark _ | rfl) : ME E X (.Compare a [.Eq] [b] pos) (mEqI c cs m ma mb) := by
  obtain ⟨f, fd, Ca, F, gm, hs, hf, bd, _, nf, nc⟩ := Z.ex
  exact ⟨PE.imp (pe_cmpR (op_eqI F hgd hr hs hf bd) ha.pe hb.pe hm) (eq_go (f := f) (fd := fd) Z.mono gm nf nc ha hb), mono_EqI Z.mono ha.mono hb.mono⟩
theorem mt_eqI (Z : EqF X.prog X.w X.K X.mg X.base cs c k m) (hgd : X.A.guards = some []) (hr : Room k X.A) (ha : ME E X a ma) (hb : ME E X b mb) (hm : behindInMarks .Eq b = false := by first | exact nomark _ | rfl) : MTJ E X (.Compare a [.Eq] [b] pos) (mB (mEqI c cs m ma mb)) := by
  obtain ⟨f, fd, Ca, F, gm, hs, hf, bd, _, nf, nc⟩ := Z.ex
  have mo := mono_EqI (c := c) (cs := cs) Z.mono ha.mono hb.mono
  exact ⟨PT.imp (pt_cmpR (op_eqI F hgd hr hs hf bd) ha.pe hb.pe hm) fun σ H Q q => eq_go (f := f) (fd := fd) Z.mono gm nf nc ha hb σ H _ (tB_go mo σ H Q q), mono_B mo⟩
theorem ne_go {Ca : Addr} (mm : MonoF m) (gm : X.mg c = some (.ref Ca)) (ha : ME E X a ma) (hb : ME E X b mb) (σ : L2.St) (H : Hp) (Q : VK)
    (h : tM (ctx X) E (mNeI c m ma mb) σ H Q) : tM (ctx X) E ma σ H fun x H1 => tM (ctx X) E mb σ H1 fun y H2 => rNeI Ca (spF (ctx X) 2 m) x y H2 Q := by
  obtain ⟨g, B0, ρ, env, S, R, N, q⟩ := h
  refine tM.go ha.mono R N q (fun _ z => z) fun w1 S1 q1 g1 ρ1 H1 v1 R1 e1 r1 => ?_
  refine ⟨g1, B0, ρ1, env, S1, R1, N.ext e1, hb.mono _ _ _ _ _ _ (fun w2 S2 ⟨fs, gs, ew1, ew2, q2⟩ => ?_) (fun x z => z.ext e1) q1⟩
  intro g2 ρ2 H2 v2 R2 e2 r2
  subst ew1 ew2
  have ra : RV (ctx X) g2 (Bad g2 B0 ρ2 S2) H2 (.ins c fs) v1 := r1.ext e2
  have rb : RV (ctx X) g2 (Bad g2 B0 ρ2 S2) H2 (.ins c gs) v2 := r2
  have spf : spF (ctx X) 2 m [v1, v2] H2 (fun v H' => ∃ b, v = .bl b ∧ Q (.bl (!b)) H') (fun _ _ _ => False) := call_go mm (ctx X) rfl R2 (.cons ra (.cons rb .nil)) q2 (fun _ z => z.elim) fun x ⟨kk, ex, z⟩ g' ρ' H' v R' e' r' => by
    subst ex
    cases (show RV _ _ _ _ (.bl kk) v from r')
    exact ⟨kk, rfl, z g' ρ' H' _ R' ((e1.trans e2).trans e') (RV.bl _)⟩
  cases ra with
  | ins hm1 h1 _ _ _ =>
    cases rb with
    | ins hm2 h2 _ _ _ =>
      have e := gm.symm.trans hm1
      cases e
      have e := gm.symm.trans hm2
      cases e
      exact ⟨_, _, _, _, _, _, rfl, rfl, h1, h2, spf⟩
theorem me_neI (Z : EqF X.prog X.w X.K X.mg X.base cs c k m) (hgd : X.A.guards = some []) (hr : Room (k + 1) X.A) (ha : ME E X a ma) (hb : ME E X b mb) (hm : behindInMarks .NotEq b = false := by first | exact nomark _ | rfl) : ME E X (.Compare a [.NotEq] [b] pos) (mNeI c m ma mb) := by
  obtain ⟨f, fd, Ca, F, gm, hs, hf, bd, sh, _, _⟩ := Z.ex
  exact ⟨PE.imp (pe_cmpR (op_neI F hgd hr sh bd) ha.pe hb.pe hm) (ne_go Z.mono gm ha hb), mono_NeI Z.mono ha.mono hb.mono⟩
theorem mt_neI (Z : EqF X.prog X.w X.K X.mg X.base cs c k m) (hgd : X.A.guards = some []) (hr : Room (k + 1) X.A) (ha : ME E X a ma) (hb : ME E X b mb) (hm : behindInMarks .NotEq b = false := by first | exact nomark _ | rfl) : MTJ E X (.Compare a [.NotEq] [b] pos) (mB (mNeI c m ma mb)) := by
  obtain ⟨f, fd, Ca, F, gm, hs, hf, bd, sh, _, _⟩ := Z.ex
  have mo := mono_NeI (c := c) Z.mono ha.mono hb.mono
  exact ⟨PT.imp (pt_cmpR (op_neI F hgd hr sh bd) ha.pe hb.pe hm) fun σ H Q q => ne_go Z.mono gm ha hb σ H _ (tB_go mo σ H Q q), mono_B mo⟩
end
end RW
/-! RwSort: sorted of lists and tuples, of ints and of pairs of ints. -/
namespace RW
open PySem PySem.Spec PyProof.Rows L2 SrtO
section
variable {prog : Program} {w : World} {A : Around} {E : Value → Shared → Prop} {st : Shared}
abbrev copyH (h : Heap) (vs : List Value) : Heap := (h.push (seqObj "list" #[] 0)).update h.objs.size (Obj.mapSeq (· ++ vs.toArray))
/-- a tuple, item by item into a new list -/
theorem collect_tup {a : Addr} {vs : List Value} {Q : List Value → Shared → Prop} (ht : IsTup st.heap a vs.toArray) (hz : vs.length ≤ sizeLine) (q : Q vs { st with heap := copyH st.heap vs }) : wpAny (model prog w) A (collect (.ref a)) Q E st := by
  obtain ⟨o, ho, hc, n, hd⟩ := ht
  have old : (st.heap.push (seqObj "list" #[] 0)).get? a = some o := Heap.get?_push_of_some _ ho
  have new : (st.heap.push (seqObj "list" #[] 0)).get? st.heap.objs.size = some (seqObj "list" #[] 0) := Heap.get?_push_size _ rfl
  unfold collect
  refine wpAny_bind (wpAny_runValue (codeAny_builtin entry_proto_collect' ?_))
  show wpAny _ _ (do again (.builtin "list.__iadd__" ⟨[← newList [], .ref a], []⟩)) _ _ st
  refine wpAny_bind (wpAny_newList (wpAny_pure ⟨Code.quiet_builtin _ (by decide +kernel), codeAny_builtin entry_list_iadd' ?_⟩))
  show wpAny _ _ (Builtin.List.listExtendWith (.ref st.heap.objs.size) (.ref a) (.ref st.heap.objs.size)) _ _ { st with heap := st.heap.push (seqObj "list" #[] 0) }
  unfold Builtin.List.listExtendWith
  refine wpAny_bind (wpAny_typeOf (T := "tuple") ⟨o, old, hc⟩ ?_)
  rw [if_pos (by rw [show (Value.type "tuple" == Value.type "tuple") = true from rfl, Bool.or_true])]
  refine wpAny_bind (listItems_at old hd ?_)
  refine wpAny_bind (listItems_at (xs := #[]) (n := 0) new rfl ?_)
  rw [if_neg (by simp)]
  refine wpAny_bind (listUpdate_at (xs := #[]) (n := 0) new rfl ?_ (Nat.zero_le _) (by show (#[] ++ vs.toArray).size ≤ sizeLine + 1; simp only [Array.size_append, List.size_toArray, List.length_nil]; omega))
  refine wpAny_pure ?_
  show wpAny (model prog w) A (do
      let o ← load st.heap.objs.size
      match o.data with
      | .seq xs _ => pure xs.toList
      | _ => unsupported "internal:collect") Q E { st with heap := copyH st.heap vs }
  refine wpAny_bind (wpAny_load (get?_update_seq new _) ?_)
  show wpAny _ _ (pure ((#[] : Array Value) ++ vs.toArray).toList) Q E _
  rw [show ((#[] : Array Value) ++ vs.toArray).toList = vs by simp]
  exact wpAny_pure q
/-- sorted of what collects to vs -/
theorem sorted_of {v : Value} {vs : List Value} {ltv : Value → Value → Bool} {Q : Value → Shared → Prop} (O : Swo ltv) (col : ∀ Q : List Value → Shared → Prop, Q vs { st with heap := copyH st.heap vs } → wpAny (model prog w) A.in1 (collect v) Q E st) (hz : vs.length ≤ sizeLine)
    (hS : 2 ≤ vs.length → ∀ (h : Heap) (a : Addr), h.get? a = some (seqObj "list" vs.toArray 0) → (∀ b o, st.heap.get? b = some o → b ≠ a ∧ h.get? b = some o) → SortableO prog w A.in1.in1 { st with heap := h } a vs ltv)
    (q : ∀ out : List Value, Srtd ltv out → Stb ltv out vs → Q (.ref (st.heap.objs.size + 1)) { st with heap := sortedAll st.heap vs out.toArray }) : wpAny (model prog w) A (call (.builtin "sorted") [v]) Q E st := by
  refine Calls.call_function_entry kind_sorted plain_sorted entry_sorted (args_sorted1 _) ?_
  unfold Builtin.«sorted»
  refine wpAny_bind (m := checkCount "sorted" 1 1 _) (wpAny_pure ?_)
  refine wpAny_bind (col _ ?_)
  refine wpAny_bind (wpAny_newList ?_ hz)
  have size1 : (copyH st.heap vs).objs.size = st.heap.objs.size + 1 := by rw [Heap.size_update, size_push']
  have atL : ((copyH st.heap vs).push (seqObj "list" vs.toArray 0)).get? (st.heap.objs.size + 1) = some (seqObj "list" vs.toArray 0) := by
    rw [← size1]
    exact Heap.get?_push_size _ rfl
  have keeps : ∀ b o, st.heap.get? b = some o → b ≠ st.heap.objs.size + 1 ∧ ((copyH st.heap vs).push (seqObj "list" vs.toArray 0)).get? b = some o := fun b o e => by
    have lt := Heap.lt_size e
    exact ⟨Nat.ne_of_lt (Nat.lt_succ_of_lt lt), Heap.get?_push_of_some _ (by rw [Heap.get?_update_ne _ _ _ _ (Nat.ne_of_lt lt)]; exact Heap.get?_push_of_some _ e)⟩
  show wpAny _ _ _ _ _ { st with heap := (copyH st.heap vs).push (seqObj "list" vs.toArray 0) }
  rw [size1]
  refine wpAny_bind (wpAny_holding (wpAny_call_entry slot_list_sort ⟨_, atL, rfl⟩ entry_list_sort (list_sort_ord O atL hz (fun h2 => hS h2 _ _ atL keeps) fun out h1 h2 => ⟨_, rfl, ?_⟩) (args_list_sort _)))
  exact wpAny_pure ⟨_, rfl, q out h1 h2⟩
end
/-- a list or a tuple collects -/
theorem seq_collect {X : Cx} {pinned : List (Addr × Obj)} {σ : L2.St} {H : Hp} {st : Shared} {a : Addr} {xs : List V} (I : Inv X pinned σ H st) (h : SqL X.K H a xs ∨ SqT X.K H a xs) :
    ∃ its : List Value, Vals xs its ∧ xs.length ≤ sizeLine ∧ ∀ (A : Around) (E : Value → Shared → Prop) (Q : List Value → Shared → Prop), Q its { st with heap := copyH st.heap its } → wpAny (model X.prog X.w) A (collect (.ref a)) Q E st := by
  rcases h with h | h
  · obtain ⟨its, rv, hl, hz⟩ := I.list h
    exact ⟨its, rv, hz, fun A E Q q => collect_list hl.isList q (by rw [← rv.length]; exact hz)⟩
  · obtain ⟨its, rv, hl, hz⟩ := I.tuple h
    exact ⟨its, rv, hz, fun A E Q q => collect_tup hl (by rw [← rv.length]; exact hz) q⟩
/-- sorted of ints -/
def rSrtI (K : PySem.W.Frag) : List V → Hp → VK → Prop := fun vs H Q => ∃ (a : Addr) (ns : List Int), vs = [V.ref a] ∧ (SqL K H a (ns.map V.int) ∨ SqT K H a (ns.map V.int)) ∧
  ∀ (out : List Int) (p : Addr), out.Perm ns → out.Pairwise (· ≤ ·) → H p = none → Q (.ref p) (upd H p (.lst (out.map V.int)))
theorem cr_srtI {X : Cx} : CallR X (.builtin "sorted") (rSrtI X.K) := by
  intro pinned st σ H vs us Q I r h
  obtain ⟨a, ns, rfl, hs, q⟩ := h
  obtain ⟨its, rv, hz, col⟩ := seq_collect I hs
  rw [Vals.ref1 r]
  have hi := rv.ints
  refine sorted_of swo_int (col _ _) (by rw [← rv.length]; exact hz) (fun h2 h₁ a' _ _ => ints_sortable hi h2) fun out h1 h2 => ?_
  obtain ⟨k1, k2, k3⟩ := ints_out hi h1 h2
  obtain ⟨ep, at_⟩ := sortedAll_at st.heap its out.toArray
  have hlen : ((out.map iv).map V.int).length ≤ sizeLine := by
    rw [List.length_map, k2.length_eq]
    rw [List.length_map] at hz
    exact hz
  exact ⟨.ref _, upd H (st.heap.objs.size + 1) (.lst ((out.map iv).map V.int)), I.laid (t' := st.toks) (fun _ _ => sortedAll_old) (Nat.le_succ _) ⟨hlen, out, ep, vals_of_ints k1, at_⟩, rfl, q _ _ k2 k3 (I.hok.fresh (Nat.le_succ _))⟩
/-- sorted of pairs of ints -/
def rSrtP (K : PySem.W.Frag) : List V → Hp → VK → Prop := fun vs H Q => ∃ (a : Addr) (xs : List V) (k : V → Int × Int), vs = [V.ref a] ∧ (SqL K H a xs ∨ SqT K H a xs) ∧ (∀ x ∈ xs, ∃ t, x = V.ref t ∧ SqT K H t [.int (k x).1, .int (k x).2]) ∧
  ∀ ys p, Srtd (ltP k) ys → Stb (ltP k) ys xs → H p = none → Q (.ref p) (upd H p (.lst ys))
theorem cr_srtP {X : Cx} : CallR X (.builtin "sorted") (rSrtP X.K) := by
  intro pinned st σ H vs us Q I r h
  obtain ⟨a, xs, k, rfl, hs, hx, q⟩ := h
  obtain ⟨its, rv, hz, col⟩ := seq_collect I hs
  rw [Vals.ref1 r]
  obtain ⟨e1, e2⟩ := refs_back rv fun x m => by
    obtain ⟨t, e, _⟩ := hx x m
    exact ⟨t, e⟩
  have pr : ∀ v ∈ its, Srt.IsPair st.heap v (k (backV v)).1 (k (backV v)).2 := fun v hv => by
    obtain ⟨t, rfl⟩ := e2 v hv
    have hm : V.ref t ∈ xs := by rw [e1]; exact List.mem_map.mpr ⟨_, hv, rfl⟩
    obtain ⟨t', e, ht⟩ := hx _ hm
    cases e
    obtain ⟨its2, r2, ⟨o, ho, hc, n, hd⟩, _⟩ := I.tuple ht
    obtain ⟨u1, u2, rfl, ri, rj⟩ := vals2 r2
    obtain ⟨t1, rfl⟩ := ri
    obtain ⟨t2, rfl⟩ := rj
    exact ⟨t, o, t1, t2, n, rfl, ho, hc, hd⟩
  refine sorted_of (swo_lex fun u => k (backV u)) (col _ _) (by rw [← rv.length]; exact hz) (fun h2 h₁ b ha kk => ?_) fun out h1 h2 => ?_
  · refine pairs_sortableO (s := { st with heap := h₁ }) (by omega) (fun v hm => (pr v hm).keeps fun b o e _ => (kk b o e).2) fun o e => ?_
    have z : some o = some (seqObj "list" its.toArray 0) := e.symm.trans ha
    cases z
    intro c
    exact absurd (Value.type.inj c) (by decide)
  · have h3 : ∀ u ∈ out, ∃ a, u = Value.ref a := fun u hu => e2 u (h2.perm.mem_iff.mp hu)
    obtain ⟨n, hn⟩ := sortedAll_at st.heap its out.toArray
    have hb : Stb (ltP k) (out.map backV) xs := by
      rw [e1]
      exact Stb.map (ltP_swo k) backV h2
    refine ⟨.ref _, upd H (st.heap.objs.size + 1) (.lst (out.map backV)), I.laid (t' := st.toks) (fun _ _ => sortedAll_old) (Nat.le_succ _) ⟨?_, out, n, vals_back h3, hn⟩, rfl, q _ _ (srtd_map h1) hb (I.hok.fresh (Nat.le_succ _))⟩
    rw [hb.len]
    exact hz
end RW
namespace RW
open PySem PySem.Spec PyProof.Rows L2 SrtO
/-- x is the pair p -/
def IsP (K : PySem.W.Frag) (H : Hp) (p : Int × Int) (x : V) : Prop := ∃ t, x = V.ref t ∧ H t = some (.tup [.int p.1, .int p.2])
def rSrtQ (K : PySem.W.Frag) : List V → Hp → VK → Prop := fun vs H Q => ∃ (a : Addr) (ps : List (Int × Int)) (xs : List V), vs = [V.ref a] ∧ (SqL K H a xs ∨ SqT K H a xs) ∧ Paired (IsP K H) ps xs ∧
  ∀ (qs : List (Int × Int)) (ys : List V) (p : Addr), qs.Perm ps → qs.Pairwise (fun a b => lexB b a = false) → Paired (IsP K H) qs ys → H p = none → Q (.ref p) (upd H p (.lst ys))
open Classical in
noncomputable def pairAt (K : PySem.W.Frag) (H : Hp) (x : V) : Int × Int := if h : ∃ p, IsP K H p x then Classical.choose h else (0, 0)
theorem cr_srtQ {X : Cx} : CallR X (.builtin "sorted") (rSrtQ X.K) := by
  intro pinned st σ H vs us Q I r h
  obtain ⟨a, ps, xs, ev, hs, pr, q⟩ := h
  have one : ∀ {p : Int × Int} {x : V}, IsP X.K H p x → pairAt X.K H x = p := fun {p x} h => by
    have hp : ∃ p, IsP X.K H p x := ⟨p, h⟩
    obtain ⟨t, e, ht⟩ := h
    unfold pairAt
    rw [dif_pos hp]
    obtain ⟨t', e', ht'⟩ := Classical.choose_spec hp
    rw [e] at e'
    cases e'
    have z := I.tuple_inj (.inl (.inl ht')) (.inl (.inl ht))
    simp only [List.cons.injEq, V.int.injEq, and_true] at z
    exact Prod.ext z.1 z.2
  have ks : ∀ {ps : List (Int × Int)} {xs : List V}, Paired (IsP X.K H) ps xs → xs.map (pairAt X.K H) = ps ∧ ∀ x ∈ xs, IsP X.K H (pairAt X.K H x) x := by
    intro ps xs pr
    induction pr with
    | nil => exact ⟨rfl, fun _ z => nomatch z⟩
    | cons h _ ih =>
      refine ⟨by rw [List.map_cons, one h, ih.1], fun x hx => ?_⟩
      rcases List.mem_cons.mp hx with rfl | hx
      · rw [one h]
        exact h
      · exact ih.2 x hx
  refine cr_srtP pinned st σ H vs us Q I r ⟨a, xs, pairAt X.K H, ev, hs, fun x hx => (let ⟨t, e, h⟩ := (ks pr).2 x hx; ⟨t, e, .inl (.inl h)⟩), fun ys p h1 h2 hp => ?_⟩
  have mem : ∀ y ∈ ys, IsP X.K H (pairAt X.K H y) y := fun y hy => (ks pr).2 y (h2.perm.mem_iff.mp hy)
  have pm := h2.perm.map (pairAt X.K H)
  rw [(ks pr).1] at pm
  refine q (ys.map (pairAt X.K H)) ys p pm (List.pairwise_map.mpr h1) ?_ hp
  clear h1 h2 pm
  induction ys with
  | nil => exact .nil
  | cons y ys ih => exact .cons (mem y List.mem_cons_self) (ih fun z hz => mem z (List.mem_cons_of_mem _ hz))
end RW
namespace RW
open PySem PySem.Spec PyProof.Rows L2 SrtO
variable [Tbl]
def srtI (ns : List Int) : List Int := ns.mergeSort fun a b => decide (a ≤ b)
theorem srtI_eq {out ns : List Int} (h : out.Perm ns) (s : out.Pairwise (· ≤ ·)) : out = srtI ns := by
  have t := List.pairwise_mergeSort (le := fun a b : Int => decide (a ≤ b)) (fun a b c x y => by simp only [decide_eq_true_eq] at *; omega) (fun a b => by simp only [Bool.or_eq_true, decide_eq_true_eq]; omega) ns
  exact List.Perm.eq_of_pairwise (fun a b _ _ x y => Int.le_antisymm x y) s (t.imp fun h => of_decide_eq_true h) (h.trans (List.mergeSort_perm ns _).symm)
def srtP (ps : List (Int × Int)) : List (Int × Int) := ps.mergeSort fun a b => !lexB b a
theorem srtP_eq {out ps : List (Int × Int)} (h : out.Perm ps) (s : out.Pairwise fun a b => lexB b a = false) : out = srtP ps := by
  have t := List.pairwise_mergeSort (le := fun a b : Int × Int => !lexB b a) (fun a b c x y => by
    simp only [Bool.not_eq_true', lexB_no] at *
    omega) (fun a b => by
    simp only [Bool.or_eq_true, Bool.not_eq_true', lexB_no]
    omega) ps
  refine List.Perm.eq_of_pairwise (le := fun a b => lexB b a = false) (fun a b _ _ x y => ?_) s (t.imp fun h => by simpa using h) (h.trans (List.mergeSort_perm ps _).symm)
  rw [lexB_no] at x y
  exact Prod.ext (by omega) (by omega)
def pairD (p : Int × Int) : D := .tup [.int p.1, .int p.2]
def pairsD : List D → Option (List (Int × Int))
  | [] => some []
  | .tup [.int i, .int j] :: r => (pairsD r).map ((i, j) :: ·)
  | _ => none
theorem pairsD_eq : ∀ {xs : List D} {ps : List (Int × Int)}, pairsD xs = some ps → xs = ps.map pairD
  | [], ps, h => by
    cases h
    rfl
  | x :: xs, ps, h => by
    unfold pairsD at h
    split at h
    · rename_i e
      cases e
    · rename_i i j r e
      cases e
      cases q : pairsD xs with
      | none => rw [q] at h; cases h
      | some qs =>
        rw [q] at h
        cases h
        rw [pairsD_eq q]
        rfl
    · cases h
theorem pairsD_map : ∀ ps : List (Int × Int), pairsD (ps.map pairD) = some ps
  | [] => rfl
  | p :: ps => by
    show (pairsD (ps.map pairD)).map ((p.1, p.2) :: ·) = some (p :: ps)
    rw [pairsD_map ps]
    rfl
def fSrt (d : D) : D := match intsD (seqD d) with
  | some ns => .lst ((srtI ns).map D.int)
  | none => match pairsD (seqD d) with
    | some ps => .lst ((srtP ps).map pairD)
    | none => .non
def cSrt (d : D) : Prop := isSeq d = true ∧ ((intsD (seqD d)).isSome = true ∨ (pairsD (seqD d)).isSome = true)
section
variable {X : Cx} {C : Cxt} {g : Gh} {B : Addr → Prop} {H : Hp}
theorem RVs.pairs : ∀ {ps : List (Int × Int)} {vs : List V}, RVs C g B H (ps.map pairD) vs → Paired (IsP C.K H) ps vs
  | [], _, h => by
    cases h
    exact .nil
  | p :: ps, _, h => by
    cases h with
    | cons h r =>
      refine .cons ?_ (RVs.pairs r)
      cases h with
      | tup sq rs =>
        refine ⟨_, rfl, ?_⟩
        cases rs with
        | cons a rs =>
          cases rs with
          | cons b rs =>
            cases rs
            cases a
            cases b
            exact sq
theorem pairs_RVs : ∀ {ps : List (Int × Int)} {vs : List V}, Paired (IsP C.K H) ps vs → RVs C g B H (ps.map pairD) vs
  | [], _, h => by
    cases h
    exact .nil
  | p :: ps, _, h => by
    cases h with
    | cons a r =>
      obtain ⟨t, rfl, sq⟩ := a
      exact .cons (.tup sq (.cons (.int _) (.cons (.int _) .nil))) (pairs_RVs r)
theorem cr_srt : CallR X (.builtin "sorted") (fun vs H Q => rSrtI X.K vs H Q ∨ rSrtQ X.K vs H Q) := fun pinned st σ H vs us Q I r h => h.elim (cr_srtI pinned st σ H vs us Q I r) (cr_srtQ pinned st σ H vs us Q I r)
theorem b_sorted : CallD X (.builtin "sorted") (c1 cSrt) (f1 fSrt) := callD1 cr_srt fun g B0 ρ S H d v Q R rv ⟨hq, hc⟩ k => by
  obtain ⟨a, vs, e, sq, rs⟩ := rv.seq hq
  subst e
  cases hi : intsD (seqD d) with
  | some ns =>
    have ev := rs.intsD hi
    subst ev
    refine .inl ⟨a, ns, rfl, sq, fun out p h1 h2 hp => ?_⟩
    obtain ⟨R2, e2, nb⟩ := R.new (o := .lst (out.map V.int)) hp
    have := k _ (.ref p) R2 e2
    unfold fSrt at this
    rw [hi] at this
    rw [srtI_eq h1 h2] at *
    exact this (.lst (.inl ⟨upd_same, nb⟩) (RVs.ints _))
  | none =>
    rw [hi] at hc
    cases hp2 : pairsD (seqD d) with
    | none =>
      rw [hp2] at hc
      rcases hc with z | z <;> cases z
    | some ps =>
      have rs2 := rs
      rw [pairsD_eq hp2] at rs2
      refine .inr ⟨a, ps, vs, rfl, sq, rs2.pairs, fun qs ys p h1 h2 h3 hp => ?_⟩
      obtain ⟨R2, e2, nb⟩ := R.new (o := .lst ys) hp
      have := k _ (.ref p) R2 e2
      unfold fSrt at this
      rw [hi, hp2] at this
      have eq := srtP_eq h1 h2
      subst eq
      exact this (.lst (.inl ⟨upd_same, nb⟩) ((pairs_RVs h3).mono e2.up))
end
end RW
/-! RwMore: list(range(n)); a list that stands still from now on. -/
namespace RW
open PySem PySem.Spec PyProof.Rows L2
variable [Tbl]
def mLstRg1 (m : MX) : MX := fun env S Q E => m env S (fun w S1 => ∃ n, w = .d (.int n) ∧ RgOk 0 n ∧ Q (.d (.lst (rgD 0 n))) S1) E
section
variable {E : XK} {X : Cx} {a : Expr} {ma m : MX} {p p2 q pos : Pos}
theorem me_lstRg1 (hc : X.calm = true) (hm : X.mg "list" = none) (hm2 : X.mg "range" = none) (ha : ME E X a ma) (hg : Gl X "list" := by rfl) (hg2 : Gl X "range" := by rfl) (na : starEach [a] X.env = (false, eval a X.env) :: starEach [] X.env := by rfl)
    (n1 : starEach [.Call (.Name "range" p2) [a] [] q] X.env = (false, eval (.Call (.Name "range" p2) [a] [] q) X.env) :: starEach [] X.env := by rfl) : ME E X (.Call (.Name "list" p) [.Call (.Name "range" p2) [a] [] q] [] pos) (mLstRg1 ma) := by
  refine ⟨PE.imp (pe_listRg hc hg hm (prg_1 hg2 hm2 ha.pe na) n1) fun σ H Q ⟨g, B0, ρ, env, S, R, N, z⟩ => ?_, fun env S Q Q' E E' h hx z => ha.mono _ _ _ _ _ _ (fun w S1 ⟨n, a, b, c⟩ => ⟨n, a, b, h _ _ c⟩) hx z⟩
  refine tM.go ha.mono R N z (fun _ z => z) fun w S1 ⟨n, ew, ok, q1⟩ g1 ρ1 H1 v1 R1 e1 r1 => ?_
  subst ew
  cases (show RV _ _ _ _ (.int n) v1 from r1)
  refine ⟨n, rfl, ok, fun l hl => ?_⟩
  obtain ⟨R2, e2, nb⟩ := R1.new (o := .lst (rgV 0 n)) hl
  exact q1 _ _ _ _ R2 (e1.trans e2) (RV.lst (.inl ⟨upd_same, nb⟩) (rg_rv 0 n))
end
/-! ### a list of the store becomes data -/
section
variable {C : Cxt} {g : Gh} {B0 : Addr → Prop} {ρ : List Addr} {S : Sto} {H : Hp}
theorem Rel.freeze (R : Rel C g B0 ρ S H) {i : Nat} {ws : List W} {xs : List D} {a : Addr} (hi : S[i]? = some (.lst ws)) (ha : ρ[i]? = some a) (hd : datas ws = some xs) :
    Rel C g B0 ρ (S.set i (.frz (.lst xs))) H ∧ Ext g B0 ρ S H g ρ (S.set i (.frz (.lst xs))) H ∧ RV C g (Bad g B0 ρ (S.set i (.frz (.lst xs)))) H (.lst xs) (.ref a) := by
  have hL := (List.getElem?_eq_some_iff.mp hi).1
  have gS : ∀ {j : Nat} {x : O}, (S.set i (.frz (.lst xs)))[j]? = some x → (j ≠ i ∧ S[j]? = some x) ∨ (j = i ∧ x = .frz (.lst xs)) := fun {j x} e => by
    by_cases hj : j = i
    · subst hj
      rw [List.getElem?_set_self hL] at e
      exact .inr ⟨rfl, (Option.some.inj e).symm⟩
    · rw [List.getElem?_set_ne (Ne.symm hj)] at e
      exact .inl ⟨hj, e⟩
  have sub : ∀ b, Own g ρ (S.set i (.frz (.lst xs))) b → Own g ρ S b := fun b z => by
    rcases z with z | ⟨j, x, h1, h2, h3⟩
    · exact .inl z
    · rcases gS h1 with ⟨_, e⟩ | ⟨rfl, rfl⟩
      · exact .inr ⟨j, x, e, h2, h3⟩
      · cases h2
  have subB : ∀ b, Bad g B0 ρ (S.set i (.frz (.lst xs))) b → Bad g B0 ρ S b := fun b z => z.imp id (sub b)
  obtain ⟨o1, o2⟩ := R.out i _ a hi rfl ha
  have free : ¬ Bad g B0 ρ (S.set i (.frz (.lst xs))) a := fun z => by
    rcases z with z | z | ⟨j, x, h1, h2, h3⟩
    · exact o1 z
    · exact o2 z
    · rcases gS h1 with ⟨n, e⟩ | ⟨rfl, rfl⟩
      · exact n (R.inj j i x _ a e hi h2 rfl h3 ha)
      · cases h2
  obtain ⟨vs, hv, pr⟩ := R.obj i _ a hi ha
  have E : Ext g B0 ρ S H g ρ (S.set i (.frz (.lst xs))) H := ⟨fun _ _ h _ => h, fun _ _ h _ => h, fun b _ _ n z => n (sub b z), .refl, ⟨[], by simp⟩⟩
  have rv : RV C g (Bad g B0 ρ (S.set i (.frz (.lst xs)))) H (.lst xs) (.ref a) := .lst (.inl ⟨hv, free⟩) ((Paired.rws pr hd).mono (Up.weak subB))
  refine ⟨⟨by rw [List.length_set]; exact R.len, fun j o b h1 h2 => ?_, fun j k o o' b h1 h2 l1 l2 h3 h4 => ?_, fun j o b h1 l h2 => ?_, R.b0, R.dr⟩, E, rv⟩
  · rcases gS h1 with ⟨_, e⟩ | ⟨rfl, rfl⟩
    · exact (R.obj j o b e h2).mono (Up.weak subB) ⟨[], by simp⟩ fun u h _ => h
    · rw [ha] at h2
      cases h2
      exact rv
  · rcases gS h1 with ⟨_, e⟩ | ⟨rfl, rfl⟩
    · rcases gS h2 with ⟨_, e'⟩ | ⟨rfl, rfl⟩
      · exact R.inj j k o o' b e e' l1 l2 h3 h4
      · cases l2
    · cases l1
  · rcases gS h1 with ⟨_, e⟩ | ⟨rfl, rfl⟩
    · exact R.out j o b e l h2
    · cases l
end
/-- the value, a list of the store as data (it stands still from now on) -/
def mFrz (m : MX) : MX := fun env S Q E => m env S (fun w S1 => match w with
  | .d x => Q (.d x) S1
  | .ref i => ∃ ws xs, S1[i]? = some (.lst ws) ∧ datas ws = some xs ∧ Q (.d (.lst xs)) (S1.set i (.frz (.lst xs)))) E
theorem me_frz {E : XK} {X : Cx} {e : Expr} {m : MX} (h : ME E X e m) : ME E X e (mFrz m) := by
  refine ⟨PE.imp h.pe fun σ H Q ⟨g, B0, ρ, env, S, R, N, q⟩ => ?_, fun env S Q Q' E E' k hx q => h.mono _ _ _ _ _ _ (fun w S1 z => by
    cases w with
    | d x => exact k _ _ z
    | ref i =>
      obtain ⟨ws, xs, a, b, c⟩ := z
      exact ⟨ws, xs, a, b, k _ _ c⟩) hx q⟩
  refine tM.go h.mono R N q (fun _ z => z) fun w S1 q1 g1 ρ1 H1 v1 R1 e1 r1 => ?_
  cases w with
  | d x => exact q1 g1 ρ1 H1 v1 R1 e1 r1
  | ref i =>
    obtain ⟨ws, xs, hi, hd, q2⟩ := q1
    obtain ⟨a, ha, ev⟩ := r1
    subst ev
    obtain ⟨R2, e2, rv⟩ := R1.freeze hi ha hd
    exact q2 g1 ρ1 H1 _ R2 (e1.trans e2) rv
end RW
/-! RwSort3: sorted of tuples of ints of one length, by their items from the left; sorted of a dict's tuple keys. -/
namespace RW
open PySem PySem.Spec PyProof.Rows L2 SrtO
def lexL : List Int → List Int → Bool
  | [], [] => false
  | [], _ :: _ => true
  | _ :: _, [] => false
  | a :: as, b :: bs => if a = b then lexL as bs else decide (a < b)
theorem lexL_asym : ∀ x y : List Int, lexL x y = true → lexL y x = false
  | [], [], _ => rfl
  | [], _ :: _, _ => rfl
  | _ :: _, [], h => by cases h
  | a :: as, b :: bs, h => by
    unfold lexL at h ⊢
    by_cases e : a = b
    · rw [if_pos e] at h
      rw [if_pos e.symm]
      exact lexL_asym as bs h
    · rw [if_neg e, decide_eq_true_eq] at h
      rw [if_neg (Ne.symm e), decide_eq_false_iff_not]
      omega
theorem lexL_tr : ∀ x y z : List Int, lexL y x = false → lexL z y = false → lexL z x = false
  | [], _, [], _, _ => rfl
  | [], [], _ :: _, _, _ => rfl
  | [], _ :: _, _ :: _, _, _ => rfl
  | _ :: _, [], _, h, _ => by cases h
  | _ :: _, _ :: _, [], _, h => by cases h
  | a :: as, b :: bs, c :: cs, h1, h2 => by
    unfold lexL at h1 h2 ⊢
    by_cases e1 : b = a
    · rw [if_pos e1] at h1
      by_cases e2 : c = b
      · rw [if_pos e2] at h2
        rw [if_pos (e2.trans e1)]
        exact lexL_tr as bs cs h1 h2
      · rw [if_neg e2, decide_eq_false_iff_not] at h2
        rw [if_neg (fun z => e2 (z.trans e1.symm)), decide_eq_false_iff_not]
        omega
    · rw [if_neg e1, decide_eq_false_iff_not] at h1
      by_cases e2 : c = b
      · rw [if_pos e2] at h2
        rw [if_neg (fun z => e1 (e2.symm.trans z)), decide_eq_false_iff_not]
        omega
      · rw [if_neg e2, decide_eq_false_iff_not] at h2
        have : ¬ c = a := by omega
        rw [if_neg this, decide_eq_false_iff_not]
        omega
theorem lexL_eq : ∀ x y : List Int, lexL x y = false → lexL y x = false → x = y
  | [], [], _, _ => rfl
  | [], _ :: _, h, _ => by cases h
  | _ :: _, [], _, h => by cases h
  | a :: as, b :: bs, h1, h2 => by
    unfold lexL at h1 h2
    by_cases e : a = b
    · rw [if_pos e] at h1
      rw [if_pos e.symm] at h2
      rw [e, lexL_eq as bs h1 h2]
    · rw [if_neg e, decide_eq_false_iff_not] at h1
      rw [if_neg (Ne.symm e), decide_eq_false_iff_not] at h2
      omega
theorem swo_lexL {α : Type} (k : α → List Int) : Swo fun v u => lexL (k v) (k u) := ⟨fun x y => lexL_asym _ _, fun x y z => lexL_tr _ _ _⟩
/-- v is a tuple of these ints -/
def TupAt (h : Heap) (v : Value) (ns : List Int) : Prop := ∃ a o its n, v = Value.ref a ∧ h.get? a = some o ∧ o.cls = .type "tuple" ∧ o.data = .seq its n ∧ Vals (ns.map V.int) its.toList
theorem TupAt.keeps {h h' : Heap} {v : Value} {ns : List Int} (p : TupAt h v ns) (k : ∀ b o, h.get? b = some o → o.cls = .type "tuple" → h'.get? b = some o) : TupAt h' v ns := by
  obtain ⟨a, o, its, n, e, h1, h2, h3, h4⟩ := p
  exact ⟨a, o, its, n, e, k _ _ h1 h2, h2, h3, h4⟩
section
variable {prog : Program} {w : World} {A : Around} {E : Value → Shared → Prop} {s : Shared}
theorem kat_ints {Q : Bool → Shared → Prop} {b : Bool} : ∀ (ns ms : List Int) (us vs : List Value) (i : Nat), Vals (ns.map V.int) us → Vals (ms.map V.int) vs → ns.length = ms.length → Q (lexL ns ms) s → PySem.W.KatLex prog w A b false Q (us.zip vs) i s
  | [], [], _, _, _, hu, hv, _, q => by
    cases hu
    cases hv
    exact PySem.W.kat_nil q
  | [], _ :: _, _, _, _, _, _, hl, _ => by cases hl
  | _ :: _, [], _, _, _, _, _, hl, _ => by cases hl
  | n :: ns, m :: ms, _, _, i, hu, hv, hl, q => by
    rw [List.map_cons] at hu hv
    cases hu with
    | cons ru tu =>
      cases hv with
      | cons rv tv =>
        obtain ⟨t, rfl⟩ := ru
        obtain ⟨t', rfl⟩ := rv
        rw [List.zip_cons_cons]
        refine PySem.W.kat_cons (SeqAt.EqAt.int_int n t m t' prog w _ _ ?_)
        unfold lexL at q
        refine PySem.W.kat_go (fun e1 => ?_) (fun e1 => ?_)
        · have ex : n = m := by simpa using e1
          rw [if_pos ex] at q
          exact PySem.W.kat_yes (kat_ints ns ms _ _ (i + 1) tu tv (by simpa using hl) q)
        · have ex : ¬ n = m := by simpa using e1
          rw [if_neg ex] at q
          exact PySem.W.kat_no (TS.oneLt_ints _ q)
theorem tup_cmp {vs : List Value} {k : Value → List Int} {d : Nat} (hp : ∀ v ∈ vs, TupAt s.heap v (k v) ∧ (k v).length = d) : Cmp prog w A s (tuples' true) (fun p => p.1 ∈ vs) (lt2 fun v u => lexL (k v) (k u)) := by
  intro p q hm hm'
  obtain ⟨⟨a, o, its, n, e, ho, hc, hd, hv⟩, l1⟩ := hp _ hm
  obtain ⟨⟨a', o', its', n', e', ho', hc', hd', hv'⟩, l2⟩ := hp _ hm'
  show wpAny (model prog w) A (keyLt' (tuples' true) p.1 q.1) (fun r s' => s' = s ∧ r = lexL (k p.1) (k q.1)) (fun _ _ => False) s
  generalize k p.1 = x at hv l1 ⊢
  generalize k q.1 = y at hv' l2 ⊢
  have hl : its.size = its'.size := by
    have h1 := hv.length
    have h2 := hv'.length
    rw [List.length_map] at h1 h2
    have h3 : its.toList.length = its'.toList.length := by omega
    simpa using h3
  rw [e, e']
  refine PySem.W.kat_lt ho hd ho' hd' ?_
  rw [show decide (its.size < its'.size) = false by rw [hl]; exact decide_eq_false (Nat.lt_irrefl _)]
  exact kat_ints _ _ _ _ 0 hv hv' (by omega) ⟨rfl, rfl⟩
theorem tup_firsts {h : Heap} {d : Nat} (hd : 1 ≤ d) : ∀ {vs : List Value}, (∀ v ∈ vs, ∃ ns, TupAt h v ns ∧ ns.length = d) → ∃ fs : List Value, PySem.W.KatTups h vs fs ∧ fs.length = vs.length ∧ ∀ f ∈ fs, ∃ x t, f = Value.int x t
  | [], _ => ⟨[], PySem.W.KatTups.nil, rfl, fun _ hm => by simp at hm⟩
  | v :: vs, hp => by
    obtain ⟨fs, h1, h2, h3⟩ := tup_firsts hd (vs := vs) fun u hm => hp u (List.mem_cons_of_mem _ hm)
    obtain ⟨ns, ⟨a, o, its, n, e, ho, hc, hdt, hv⟩, hl⟩ := hp v List.mem_cons_self
    subst e
    match ns, hl, hv with
    | [], hl, _ => simp at hl; omega
    | m :: ms, _, hv =>
      rw [List.map_cons] at hv
      obtain ⟨y, ys, ey⟩ : ∃ y ys, its.toList = y :: ys := by
        cases z : its.toList with
        | nil => rw [z] at hv; cases hv
        | cons y ys => exact ⟨y, ys, rfl⟩
      rw [ey] at hv
      cases hv with
      | cons r t =>
        obtain ⟨tk, rfl⟩ := r
        refine ⟨.int m tk :: fs, PySem.W.KatTups.cons ho hc hdt (by rw [← Array.getElem?_toList, ey]; rfl) h1, by rw [List.length_cons, List.length_cons, h2], fun f hm => ?_⟩
        rcases List.mem_cons.mp hm with rfl | hm
        · exact ⟨_, _, rfl⟩
        · exact h3 f hm
theorem tup_sortable {a : Addr} {vs : List Value} {k : Value → List Int} {d : Nat} (hd : 1 ≤ d) (h0 : 0 < vs.length) (hp : ∀ v ∈ vs, TupAt s.heap v (k v) ∧ (k v).length = d) (ha : ∀ o, s.heap.get? a = some o → o.cls ≠ .type "tuple") : SortableO prog w A s a vs fun v u => lexL (k v) (k u) := by
  intro h' keep
  have hp' : ∀ v ∈ vs, TupAt h' v (k v) ∧ (k v).length = d := fun v hm => ⟨(hp v hm).1.keeps fun b o e c => keep b o (fun z => by subst z; exact ha o e c) e, (hp v hm).2⟩
  obtain ⟨fs, h1, h2, h3⟩ := tup_firsts hd fun v hm => ⟨_, hp' v hm⟩
  refine ⟨tuples' true, fun Q E hq => ?_, tup_cmp hp'⟩
  refine PySem.W.kat_kind (T := .type "int") h1 (by omega) (fun f hm => ?_) (by rfl) ?_
  · obtain ⟨x, t, rfl⟩ := h3 f hm
    exact PySem.W.Looks.now
  · have e : (Value.type "int" != Value.type "tuple") = true := by first | decide +kernel | rfl | decide
    rw [e]
    exact hq
end
/-- sorted of tuples of d ints -/
abbrev ltL (k : V → List Int) (x y : V) : Bool := lexL (k x) (k y)
def rSrtT (K : PySem.W.Frag) : List V → Hp → VK → Prop := fun vs H Q => ∃ (a : Addr) (xs : List V) (k : V → List Int) (d : Nat), vs = [V.ref a] ∧ 1 ≤ d ∧ (SqL K H a xs ∨ SqT K H a xs) ∧ (∀ x ∈ xs, (∃ t, x = V.ref t ∧ SqT K H t ((k x).map V.int)) ∧ (k x).length = d) ∧
  ∀ ys p, Srtd (ltL k) ys → Stb (ltL k) ys xs → H p = none → Q (.ref p) (upd H p (.lst ys))
theorem tup_of {X : Cx} {pinned : List (Addr × Obj)} {σ : L2.St} {H : Hp} {st : Shared} {t : Addr} {ns : List Int} (I : Inv X pinned σ H st) (h : SqT X.K H t (ns.map V.int)) : TupAt st.heap (.ref t) ns := by
  obtain ⟨its, r, ⟨o, ho, hc, n, hd⟩, _⟩ := I.tuple h
  exact ⟨t, o, its.toArray, n, rfl, ho, hc, hd, by simpa using r⟩
theorem cr_srtT {X : Cx} : CallR X (.builtin "sorted") (rSrtT X.K) := by
  intro pinned st σ H vs us Q I r h
  obtain ⟨a, xs, k, d, rfl, hd, hs, hx, q⟩ := h
  obtain ⟨its, rv, hz, col⟩ := seq_collect I hs
  rw [Vals.ref1 r]
  obtain ⟨e1, e2⟩ := refs_back rv fun x m => by
    obtain ⟨⟨t, e, _⟩, _⟩ := hx x m
    exact ⟨t, e⟩
  have pr : ∀ v ∈ its, TupAt st.heap v (k (backV v)) ∧ (k (backV v)).length = d := fun v hv => by
    obtain ⟨t, rfl⟩ := e2 v hv
    have hm : V.ref t ∈ xs := by rw [e1]; exact List.mem_map.mpr ⟨_, hv, rfl⟩
    obtain ⟨⟨t', e, ht⟩, hl⟩ := hx _ hm
    cases e
    exact ⟨tup_of I ht, hl⟩
  refine sorted_of (swo_lexL fun u => k (backV u)) (col _ _) (by rw [← rv.length]; exact hz) (fun h2 h₁ b ha kk => ?_) fun out h1 h2 => ?_
  · refine tup_sortable (s := { st with heap := h₁ }) hd (by omega) (fun v hm => ⟨(pr v hm).1.keeps fun b o e _ => (kk b o e).2, (pr v hm).2⟩) fun o e => ?_
    have z : some o = some (seqObj "list" its.toArray 0) := e.symm.trans ha
    cases z
    intro c
    exact absurd (Value.type.inj c) (by decide)
  · have h3 : ∀ u ∈ out, ∃ a, u = Value.ref a := fun u hu => e2 u (h2.perm.mem_iff.mp hu)
    obtain ⟨n, hn⟩ := sortedAll_at st.heap its out.toArray
    have hb : Stb (ltL k) (out.map backV) xs := by
      rw [e1]
      exact Stb.map (swo_lexL k) backV h2
    refine ⟨.ref _, upd H (st.heap.objs.size + 1) (.lst (out.map backV)), I.laid (t' := st.toks) (fun _ _ => sortedAll_old) (Nat.le_succ _) ⟨?_, out, n, vals_back h3, hn⟩, rfl, q _ _ (srtd_map h1) hb (I.hok.fresh (Nat.le_succ _))⟩
    rw [hb.perm.length_eq]
    exact hz
/-- sorted of a locked dict, its keys tuples of d ints -/
def rSrtD (K : PySem.W.Frag) : List V → Hp → VK → Prop := fun vs H Q => ∃ (a : Addr) (kvs : List (List Key × V)) (kss : List (List Int)) (d : Nat), vs = [V.ref a] ∧ 1 ≤ d ∧ Rd H a (.dT kvs) ∧ kvs.map (·.1) = kss.map (fun ns => ns.map Sum.inl) ∧ (∀ ns ∈ kss, ns.length = d) ∧
  ∀ (out : List (List Int)) (ys : List V) (p : Addr), out.Perm kss → out.Pairwise (fun x y => lexL y x = false) → Paired (fun ns y => ∃ t, y = V.ref t ∧ H t = some (.tup (ns.map V.int))) out ys → H p = none → Q (.ref p) (upd H p (.lst ys))
section
variable {prog : Program} {w : World} {A : Around} {E : Value → Shared → Prop} {st : Shared}
/-- sorted of what collects to vs, wherever that leads -/
theorem sorted_gen {v : Value} {vs : List Value} {ltv : Value → Value → Bool} {Q : Value → Shared → Prop} (O : Swo ltv) (col : ∀ Q : List Value → Shared → Prop, (∀ h' tk, (∀ b o, st.heap.get? b = some o → h'.get? b = some o) → Q vs { st with heap := h', toks := tk }) → wpAny (model prog w) A.in1 (collect v) Q E st) (hz : vs.length ≤ sizeLine)
    (hS : 2 ≤ vs.length → ∀ (h : Heap) (tk : Nat) (a : Addr), h.get? a = some (seqObj "list" vs.toArray 0) → (∀ b o, st.heap.get? b = some o → b ≠ a ∧ h.get? b = some o) → SortableO prog w A.in1.in1 { st with heap := h, toks := tk } a vs ltv)
    (q : ∀ (h' : Heap) (tk : Nat) (out : List Value), (∀ b o, st.heap.get? b = some o → h'.get? b = some o) → Srtd ltv out → Stb ltv out vs → Q (.ref h'.objs.size) { st with heap := sortedHeap (h'.push (seqObj "list" vs.toArray 0)) h'.objs.size vs out.toArray, toks := tk }) :
    wpAny (model prog w) A (call (.builtin "sorted") [v]) Q E st := by
  refine Calls.call_function_entry kind_sorted plain_sorted entry_sorted (args_sorted1 _) ?_
  unfold Builtin.«sorted»
  refine wpAny_bind (m := checkCount "sorted" 1 1 _) (wpAny_pure ?_)
  refine wpAny_bind (col _ fun h' tk keep => ?_)
  refine wpAny_bind (wpAny_newList ?_ hz)
  have atL : (h'.push (seqObj "list" vs.toArray 0)).get? h'.objs.size = some (seqObj "list" vs.toArray 0) := Heap.get?_push_size _ rfl
  have keeps : ∀ b o, st.heap.get? b = some o → b ≠ h'.objs.size ∧ (h'.push (seqObj "list" vs.toArray 0)).get? b = some o := fun b o e => ⟨Nat.ne_of_lt (Heap.lt_size (keep b o e)), Heap.get?_push_of_some _ (keep b o e)⟩
  show wpAny _ _ _ _ _ { st with heap := h'.push (seqObj "list" vs.toArray 0), toks := tk }
  refine wpAny_bind (wpAny_holding (wpAny_call_entry slot_list_sort ⟨_, atL, rfl⟩ entry_list_sort (list_sort_ord O atL hz (fun h2 => hS h2 _ _ _ atL keeps) fun out h1 h2 => ⟨_, rfl, ?_⟩) (args_list_sort _)))
  exact wpAny_pure ⟨_, rfl, q h' tk out keep h1 h2⟩
end
open Classical in
noncomputable def kfH (H : Hp) (v : Value) : List Int := if h : ∃ ns : List Int, ∃ t, v = .ref t ∧ H t = some (.tup (ns.map V.int)) then Classical.choose h else []
theorem ints_injV : ∀ {ns ms : List Int}, ns.map V.int = ms.map V.int → ns = ms
  | [], [], _ => rfl
  | [], _ :: _, h => by cases h
  | _ :: _, [], h => by cases h
  | n :: ns, m :: ms, h => by
    rw [List.map_cons, List.map_cons] at h
    injection h with h1 h2
    injection h1 with h1
    rw [h1, ints_injV h2]
theorem kfH_of {H : Hp} {t : Addr} {ns : List Int} (e : H t = some (.tup (ns.map V.int))) : kfH H (.ref t) = ns := by
  have hp : ∃ ns : List Int, ∃ t', Value.ref t = .ref t' ∧ H t' = some (.tup (ns.map V.int)) := ⟨ns, t, rfl, e⟩
  unfold kfH
  rw [dif_pos hp]
  obtain ⟨t', e1, e2⟩ := Classical.choose_spec hp
  cases e1
  rw [e] at e2
  injection e2 with e2
  injection e2 with e2
  exact (ints_injV e2).symm
theorem cr_srtD {X : Cx} (hc : X.calm = true) : CallR X (.builtin "sorted") (rSrtD X.K) := by
  intro pinned st σ H vs us Q I r h
  obtain ⟨d, kvs, kss, dl, rfl, hd1, hd, hk, hl, q⟩ := h
  obtain ⟨u, rfl, rx⟩ := vals1 r
  cases rx
  obtain ⟨z, hs, ks, pr, o, es, ep, ho, hx, hdt, he, hn⟩ := (show ObjOk X.prog X.w H st.heap d (.dT kvs) from hd.ok I.hok)
  have l1 : es.size = ks.length := size_of_entries he
  have l2 : kvs.length = ks.length := Paired.length pr
  let its : List Value := ks.map fun x => Value.ref x.2.1
  have hlen : its.length = ks.length := by show (ks.map _).length = _; rw [List.length_map]
  have kq : Paired (fun ns (x : List Key × Addr × Value) => H x.2.1 = some (.tup (ns.map V.int))) kss ks := by
    have go : ∀ {kvs : List (List Key × V)} {ks : List (List Key × Addr × Value)} {kss : List (List Int)}, Paired (fun (p : List Key × V) (q : List Key × Addr × Value) => p.1 = q.1 ∧ H q.2.1 = some (.tup (p.1.map kV)) ∧ RelV p.2 q.2.2) kvs ks →
        kvs.map (·.1) = kss.map (fun ns => ns.map Sum.inl) → Paired (fun ns (x : List Key × Addr × Value) => H x.2.1 = some (.tup (ns.map V.int))) kss ks := by
      intro kvs ks kss p
      induction p generalizing kss with
      | nil =>
        intro e
        cases kss with
        | nil => exact .nil
        | cons _ _ => cases e
      | @cons a b as bs h t ih =>
        intro e
        cases kss with
        | nil => cases e
        | cons ns kss =>
          rw [List.map_cons, List.map_cons] at e
          injection e with e1 e2
          refine .cons ?_ (ih e2)
          have := h.2.1
          rw [e1, List.map_map] at this
          exact this
    exact go pr hk
  have at_ : ∀ v ∈ its, ∃ t ns, v = Value.ref t ∧ H t = some (.tup (ns.map V.int)) ∧ (ns : List Int).length = dl := by
    have go : ∀ {kss : List (List Int)} {ks : List (List Key × Addr × Value)}, Paired (fun ns (x : List Key × Addr × Value) => H x.2.1 = some (.tup (ns.map V.int))) kss ks → (∀ ns ∈ kss, ns.length = dl) → ∀ v ∈ ks.map (fun x => Value.ref x.2.1), ∃ t ns, v = Value.ref t ∧ H t = some (.tup (ns.map V.int)) ∧ (ns : List Int).length = dl := by
      intro kss ks p
      induction p with
      | nil => intro _ x hx; cases hx
      | cons h t ih =>
        intro hl x hx
        rw [List.map_cons] at hx
        rcases List.mem_cons.mp hx with rfl | hx
        · exact ⟨_, _, rfl, h, hl _ List.mem_cons_self⟩
        · exact ih (fun ns hn => hl ns (List.mem_cons_of_mem _ hn)) x hx
    exact go kq hl
  have mapk : its.map (kfH H) = kss := by
    have go : ∀ {kss : List (List Int)} {ks : List (List Key × Addr × Value)}, Paired (fun ns (x : List Key × Addr × Value) => H x.2.1 = some (.tup (ns.map V.int))) kss ks → (ks.map fun x => Value.ref x.2.1).map (kfH H) = kss := by
      intro kss ks p
      induction p with
      | nil => rfl
      | cons h t ih => rw [List.map_cons, List.map_cons, ih, kfH_of h]
    exact go kq
  have hz2 : its.length ≤ sizeLine := by omega
  refine sorted_gen (vs := its) (swo_lexL (kfH H)) (fun Q hQ => ?_) hz2 (fun h2 h₁ tk b ha kk => ?_) fun h' tk out keep h1 h2 => ?_
  · refine PySem.W.kdu_collect (A := X.A.in1) (kdl_raw hs hx hdt) (I.ok.hd hc) ho (by omega) fun h' tk acc hk' it => ?_
    have ea : acc.toList = its := by
      apply List.ext_getElem?
      intro j
      have hl2 : acc.toList.length = ks.length := by rw [Array.length_toList, it.1]; exact l1
      show _ = (ks.map fun x => Value.ref x.2.1)[j]?
      rw [List.getElem?_map]
      cases hj : acc.toList[j]? with
      | none =>
        have := List.getElem?_eq_none_iff.mp hj
        rw [List.getElem?_eq_none (by omega)]
        rfl
      | some v =>
        obtain ⟨en, hen, hv⟩ := it.2 j v (by rw [← Array.getElem?_toList]; exact hj)
        have qe := entry_at he j
        rw [hen] at qe
        cases hb : ks[j]? with
        | none => rw [hb] at qe; exact nomatch (show some en = none from qe)
        | some b =>
          rw [hb] at qe
          have e2 : en = entryOfKey (tupleKind (mixKind X.prog X.w)) b := Option.some.inj qe
          rw [hv, e2]
          rfl
    rw [ea]
    exact hQ h' tk hk'
  · refine tup_sortable (s := { st with heap := h₁, toks := tk }) hd1 (by omega) (fun v hm => ?_) fun o e => ?_
    · obtain ⟨t, ns, rfl, e, hl'⟩ := at_ v hm
      rw [kfH_of e]
      exact ⟨(tup_of I (.inl (.inl e))).keeps fun b o e _ => (kk b o e).2, hl'⟩
    · have z : some o = some (seqObj "list" its.toArray 0) := e.symm.trans ha
      cases z
      intro c
      exact absurd (Value.type.inj c) (by decide)
  · have h3 : ∀ u ∈ out, ∃ a, u = Value.ref a := fun u hu => let ⟨t, _, e, _⟩ := at_ u (h2.perm.mem_iff.mp hu); ⟨t, e⟩
    obtain ⟨n, hn⟩ := sortedHeap_at (vs := its) (out := out.toArray) (show (h'.push (seqObj "list" its.toArray 0)).get? h'.objs.size = some (seqObj "list" its.toArray 0) from Heap.get?_push_size _ rfl)
    have I1 : Inv X pinned σ H { st with heap := h', toks := tk } := I.kept keep
    have pr2 : ∀ us : List Value, (∀ u ∈ us, u ∈ its) → Paired (fun ns y => ∃ t, y = V.ref t ∧ H t = some (.tup (ns.map V.int))) (us.map (kfH H)) (us.map backV) := fun us => by
      induction us with
      | nil => intro _; exact .nil
      | cons u us ih =>
        intro hm
        obtain ⟨t, ns, rfl, e, _⟩ := at_ u (hm u List.mem_cons_self)
        rw [List.map_cons, List.map_cons, kfH_of e]
        exact .cons ⟨t, rfl, e⟩ (ih fun v hv => hm v (List.mem_cons_of_mem _ hv))
    refine ⟨.ref _, upd H h'.objs.size (.lst (out.map backV)), I1.laid (t' := tk) (fun b u e => ?_) (Nat.le_refl _) ⟨?_, out, n, vals_back h3, hn⟩, rfl, q (out.map (kfH H)) _ _ ?_ (List.pairwise_map.mpr h1) (pr2 out fun u hu => h2.perm.mem_iff.mp hu) (I1.hok.fresh (Nat.le_refl _))⟩
    · have hb : b < h'.objs.size := Heap.lt_size e
      rw [sortedHeap_old (Nat.ne_of_lt hb) (by rw [size_push']; exact Nat.lt_succ_of_lt hb)]
      exact Heap.get?_push_of_some _ e
    · rw [List.length_map, h2.perm.length_eq]
      exact hz2
    · have := h2.perm.map (kfH H)
      rwa [mapk] at this
end RW
/-! RwMk: an error made as a value. -/
namespace RW
open PySem PySem.Spec PyProof.Rows L2
variable [Tbl]
section
variable {X : Cx} {pinned : List (Addr × Obj)} {σ : L2.St} {H : Hp} {st : Shared}
/-- two new objects at once -/
theorem laid_two {h' : Heap} {t' : Nat} {d e : Addr} {od : HO} {φ : Heap → Prop} (I : Inv X pinned σ H st) (k : ∀ b o, st.heap.get? b = some o → h'.get? b = some o) (bd : st.heap.objs.size ≤ d) (be : st.heap.objs.size ≤ e) (ne : d ≠ e)
    (newd : ObjOk X.prog X.w (upd H d od) h' d od) (newe : ObjOk X.prog X.w (upd (upd H d od) e (.ext φ)) h' e (.ext φ)) : Inv X pinned σ (upd (upd H d od) e (.ext φ)) { st with heap := h', toks := t' } := by
  have hd := I.hok.fresh bd
  have he := I.hok.fresh be
  have old : ∀ b o, H b = some o → upd (upd H d od) e (.ext φ) b = some o := fun b o q => by rw [upd_ne (ne_of_none q he), upd_ne (ne_of_none q hd)]; exact q
  have lo : ∀ b o, st.heap.get? b = some o → b ≠ d ∧ b ≠ e := fun b o q => ⟨Nat.ne_of_lt (Nat.lt_of_lt_of_le (Heap.lt_size q) bd), Nat.ne_of_lt (Nat.lt_of_lt_of_le (Heap.lt_size q) be)⟩
  have hok1 := I.hok.laid k bd newd
  have he1 : upd H d od e = none := by rw [upd_ne (Ne.symm ne)]; exact he
  have hok2 : HOk X.prog X.w (upd (upd H d od) e (.ext φ)) h' := fun b u q => by
    by_cases hb : b = e
    · subst hb
      rw [upd_same] at q
      cases q
      exact newe
    · rw [upd_ne hb] at q
      exact (hok1 b u q).stay (fun c v _ z => z) (fun c z => by rw [upd_ne (ne_of_none z he1)]; exact z) fun c xs z => by rw [upd_ne (ne_of_none z he1)]; exact z
  refine I.un (⟨fun b o q _ _ _ => k b o q, fun b o q _ _ _ => ⟨o.slots, k b o q⟩, fun b o q n _ => ?_, fun b o q _ => ⟨o, k b o q⟩, fun b xs q => old _ _ q, fun b o u q => old _ _ q, fun b ps q => ⟨#[], by rw [Array.append_empty]; exact old _ _ q⟩⟩) hok2
  rw [upd_ne (lo b o q).2, upd_ne (lo b o q).1]
  exact n
end
section
variable {X : Cx} {C fI : Addr} {nm fld msg : Str}
def tErrV (C : Addr) (fld : Str) (ta : TA) : TE := fun σ H Q => ta σ H fun vs H1 => ∃ v, vs = [v] ∧ ∀ d e, H1 d = none → H1 e = none → d ≠ e → Q (.ref e) (upd (upd H1 d (.xd [(fld, v)])) e (ExK C (some d) e))
theorem made_v {pinned : List (Addr × Obj)} {σ : L2.St} {H1 : Hp} {st : Shared} {Q : VK} {k : Nat} {v : V} {v' : Value} (T : ErrTxt X.prog X.K X.mg nm C fI fld msg) (hr : Room k X.A) (I : Inv X pinned σ H1 st) (rv : RelV v v')
    (q : ∀ d e, H1 d = none → H1 e = none → d ≠ e → Q (.ref e) (upd (upd H1 d (.xd [(fld, v)])) e (ExK C (some d) e))) : wpAny (model X.prog X.w) X.A (call (.ref C) [v']) (EP X pinned σ Q) X.xe st := by
  have lim := I.nolimit
  have G := I.mod.glob.keeps I.bk
  obtain ⟨mb, b1, b2⟩ := I.mod.blt
  refine wpAny_call (err_made T I.kIn lim G ⟨mb, b1.keeps I.bk, b2⟩ (by have := hr.dp; omega) fun h' tk e d M => ?_)
  obtain ⟨oe, fv, hoe, hc, hd, hdat, h1⟩ := M.obj
  have new : ObjOk X.prog X.w (upd H1 d (.xd [(fld, v)])) h' d (.xd [(fld, v)]) := ⟨_, M.ns.at (fun o z => z), fun f => relO_fld rv f⟩
  have own : ObjOk X.prog X.w (upd (upd H1 d (.xd [(fld, v)])) e (ExK C (some d) e)) h' e (ExK C (some d) e) := ⟨⟨oe, fv, hoe, hc, hd, hdat⟩, ⟨oe, hoe⟩, fun g g' ⟨o2, vs2, a1, a2, a3, a4⟩ stay => ⟨o2, vs2, stay _ a1, a2, a3, a4⟩⟩
  exact ⟨.ref e, _, laid_two (t' := tk) I M.keep M.dbig M.new M.dne new own, rfl, q d e (I.hok.fresh M.dbig) (I.hok.fresh M.new) M.dne⟩
theorem pe_errV {a : Expr} {ta : TA} {p pos : Pos} {k : Nat} (T : ErrTxt X.prog X.K X.mg nm C fI fld msg) (hr : Room k X.A) (ha : PA X [a] ta) (hg : Gl X nm := by rfl) (hdb : (nm == ("__debug__" : Str)) = false := by decide)
    (he : starEach (a :: []) X.env = (false, eval a X.env) :: starEach [] X.env := by rfl) (hpl : (backTo pos (starEach [] X.env)).any (·.1) = false := by rfl) : PE X (.Call (.Name nm p) [a] [] pos) (tErrV C fld ta) := by
  refine ⟨fun pinned st σ H Q I h => ?_⟩
  refine wpAny_Call_Name_kw (ld_glob I hg T.gC ?_ hdb)
  refine PySem.W.callWith_K (h₀ := X.base) I.ok.mod.kin T.kC (thn (ha.run pos pinned st σ H _ I h) fun us st1 ⟨vs, H1, J, r1, v, ev, q⟩ => ?_) he hpl
  subst ev
  refine ⟨J.kIn, ?_⟩
  cases r1 with
  | cons rv rn =>
    cases rn
    exact made_v T hr J rv q
end
def mErrV (nm fld : Str) (t : MA) : MX := fun env S Q E => t env S (fun ws S1 => ∃ x, ws = [.d x] ∧ Q (.d (.exc nm [(fld, x)])) S1) E
theorem me_errV {E : XK} {X : Cx} {C fI : Addr} {nm fld msg : Str} {a : Expr} {t : MA} {p pos : Pos} {k : Nat} (T : ErrTxt X.prog X.K X.mg nm C fI fld msg) (hr : Room k X.A) (ha : MAJ E X [a] t) (hg : Gl X nm := by rfl) (hdb : (nm == ("__debug__" : Str)) = false := by decide)
    (he : starEach (a :: []) X.env = (false, eval a X.env) :: starEach [] X.env := by rfl) (hpl : (backTo pos (starEach [] X.env)).any (·.1) = false := by rfl) : ME E X (.Call (.Name nm p) [a] [] pos) (mErrV nm fld t) := by
  refine ⟨PE.imp (pe_errV T hr ha.pa hg hdb he hpl) fun σ H Q ⟨g, B0, ρ, env, S, R, N, q⟩ => ?_, fun env S Q Q' E E' h hx q => ha.mono _ _ _ _ _ _ (fun w S' ⟨x, a, b⟩ => ⟨x, a, h _ _ b⟩) hx q⟩
  refine tMA.go ha.mono R N q (fun _ z => z) fun ws S1 ⟨x, ew, q1⟩ g1 ρ1 H1 vs R1 e1 r1 => ?_
  subst ew
  cases r1 with
  | cons rx rn =>
    cases rn
    rename_i v
    refine ⟨v, rfl, fun d e hd he ne => ?_⟩
    obtain ⟨R2, e2, _⟩ := R1.new (o := .xd [(fld, v)]) hd
    obtain ⟨R3, e3, nb⟩ := R2.new (p := e) (o := ExK C (some d) e) (by rw [upd_ne (Ne.symm ne)]; exact he)
    have rx' : RV (ctx X) g1 (Bad g1 B0 ρ1 S1) H1 x v := rx
    exact q1 _ _ _ _ R3 ((e1.trans e2).trans e3) (RV.exc1 T.gC upd_same nb (by rw [upd_ne ne, upd_same]) (.cons (rx'.mono (e2.trans e3).up) .nil))
end RW
namespace RW
open PySem PySem.Spec PyProof.Rows L2
variable [Tbl]
theorem laid_none {X : Cx} {pinned : List (Addr × Obj)} {σ : L2.St} {H : Hp} {st : Shared} {h' : Heap} {t' : Nat} {e : Addr} {φ : Heap → Prop} (I : Inv X pinned σ H st) (k : ∀ b o, st.heap.get? b = some o → h'.get? b = some o) (ne : st.heap.get? e = none)
    (newe : ObjOk X.prog X.w (upd H e (.ext φ)) h' e (.ext φ)) : Inv X pinned σ (upd H e (.ext φ)) { st with heap := h', toks := t' } := by
  have he := I.hok.gone ne
  have old : ∀ b o, H b = some o → upd H e (.ext φ) b = some o := fun b o q => by rw [upd_ne (ne_of_none q he)]; exact q
  have hok2 : HOk X.prog X.w (upd H e (.ext φ)) h' := fun b u q => by
    by_cases hb : b = e
    · subst hb
      rw [upd_same] at q
      cases q
      exact newe
    · rw [upd_ne hb] at q
      exact (I.hok b u q).stay (fun c v _ z => k c v z) (fun c z => old _ _ z) fun c xs z => old _ _ z
  refine I.un (⟨fun b o q _ _ _ => k b o q, fun b o q _ _ _ => ⟨o.slots, k b o q⟩, fun b o q n _ => ?_, fun b o q _ => ⟨o, k b o q⟩, fun b xs q => old _ _ q, fun b o u q => old _ _ q, fun b ps q => ⟨#[], by rw [Array.append_empty]; exact old _ _ q⟩⟩) hok2
  rw [upd_ne (fun z => by rw [z, ne] at q; cases q)]
  exact n
def tErrV0 (C : Addr) (ta : TA) : TE := fun σ H Q => ta σ H fun vs H1 => ∃ v, vs = [v] ∧ ∀ e, H1 e = none → Q (.ref e) (upd H1 e (ExK C none e))
theorem pe_errV0 {X : Cx} {C : Addr} {nm : Str} {bmB : List Value} {B newId initId : String} {a : Expr} {ta : TA} {p pos : Pos} (F : ExcBaseFacts B newId initId bmB) (q : PySem.W.excIn X.K C bmB newId = true) (gC : X.mg nm = some (.ref C)) (kC : PySem.W.keepIn X.K (.ref C) = true) (ha : PA X [a] ta)
    (hg : Gl X nm := by rfl) (hdb : (nm == ("__debug__" : Str)) = false := by decide) (he : starEach (a :: []) X.env = (false, eval a X.env) :: starEach [] X.env := by rfl) (hpl : (backTo pos (starEach [] X.env)).any (·.1) = false := by rfl) : PE X (.Call (.Name nm p) [a] [] pos) (tErrV0 C ta) := by
  refine ⟨fun pinned st σ H Q I h => ?_⟩
  refine wpAny_Call_Name_kw (ld_glob I hg gC ?_ hdb)
  refine PySem.W.callWith_K (h₀ := X.base) I.ok.mod.kin kC (thn (ha.run pos pinned st σ H _ I h) fun us st1 ⟨vs, H1, J, r1, v, ev, z⟩ => ?_) he hpl
  subst ev
  refine ⟨J.kIn, ?_⟩
  obtain ⟨u, rfl, ru⟩ := vals1 r1
  show wpAny _ _ (call (.ref C) [u]) _ _ _
  obtain ⟨bm, N, nm', qn, bs, hdct, sn, sub, ab, col, dd, k0, k1, k2, k3, k5, mN, hC, hN, hni, T⟩ := exc_obj J.kIn q
  obtain ⟨hp, g, dr, tk, os⟩ := st1
  refine wpAny_call_exc_subT F T hC hN hni (fun h' e M => ?_) (by show 1 ≤ sizeLine; rw [sizeLine_eq]; omega)
  obtain ⟨t, ht, _, _⟩ := M.there
  have own : ObjOk X.prog X.w (upd H1 e (ExK C none e)) h' e (ExK C none e) := ⟨⟨_, _, ht, rfl, rfl, rfl⟩, ⟨_, ht⟩, fun g g' ⟨o2, vs2, a1, a2, a3, a4⟩ stay => ⟨o2, vs2, stay _ a1, a2, a3, a4⟩⟩
  exact ⟨.ref e, _, laid_none (t' := tk) J M.keeps M.new own, rfl, z e (J.hok.gone M.new)⟩
def mErrV0 (nm : Str) (t : MA) : MX := fun env S Q E => t env S (fun ws S1 => ∃ x, ws = [.d x] ∧ Q (.d (.exc nm [])) S1) E
theorem me_errV0 {E : XK} {X : Cx} {C : Addr} {nm : Str} {bmB : List Value} {B newId initId : String} {a : Expr} {t : MA} {p pos : Pos} (F : ExcBaseFacts B newId initId bmB) (q : PySem.W.excIn X.K C bmB newId = true) (gC : X.mg nm = some (.ref C)) (kC : PySem.W.keepIn X.K (.ref C) = true) (ha : MAJ E X [a] t)
    (hg : Gl X nm := by rfl) (hdb : (nm == ("__debug__" : Str)) = false := by decide) (he : starEach (a :: []) X.env = (false, eval a X.env) :: starEach [] X.env := by rfl) (hpl : (backTo pos (starEach [] X.env)).any (·.1) = false := by rfl) : ME E X (.Call (.Name nm p) [a] [] pos) (mErrV0 nm t) := by
  refine ⟨PE.imp (pe_errV0 F q gC kC ha.pa hg hdb he hpl) fun σ H Q ⟨g, B0, ρ, env, S, R, N, q⟩ => ?_, fun env S Q Q' E E' h hx q => ha.mono _ _ _ _ _ _ (fun w S' ⟨x, a, b⟩ => ⟨x, a, h _ _ b⟩) hx q⟩
  refine tMA.go ha.mono R N q (fun _ z => z) fun ws S1 ⟨x, ew, q1⟩ g1 ρ1 H1 vs R1 e1 r1 => ?_
  subst ew
  cases r1 with
  | cons rx rn =>
    cases rn
    rename_i v
    refine ⟨v, rfl, fun e he => ?_⟩
    obtain ⟨R2, e2, nb⟩ := R1.new (p := e) (o := ExK C none e) he
    exact q1 _ _ _ _ R2 (e1.trans e2) (RV.exc0 gC upd_same nb)
end RW
/-! RwErrK: an error made by keyword. -/
namespace RW
open PySem PySem.W PySem.Calls PyProof.Rows PySem.HandSPX
section
variable {prog : Program} {w : World} {A : Around} {M : Model} {E : Value → Shared → Prop} {R : Result → Shared → Prop} {h : Heap} {g : Array GenState} {d : Drawn} {t : Nat} {os : OsState}
variable {nm q : Str} {C N : Addr} {bs bm bmB : List Value} {hdct : Bool} {sn : List Str} {sub : List Value} {ab : Bool} {col : Option Bool} {dd : Option Addr} {k0 k1 k2 k3 k5 : Option Value} {B newId initId : String} {fld : Str} {v : Value}
theorem kw_new (F : ExcBaseFacts B newId initId bmB) (hT : ∀ X : String, bm.contains (.type X) = bmB.contains (.type X)) (cls : h.get? C = some (excClassObj nm q C N bs bm hdct sn sub ab col dd k0 k1 k2 k3 k5 newId))
    (k : R (.ok (.ret (.ref (h.objs.size + 1)))) ⟨(h.push (kdv_tup [])).push (excO C h.objs.size), g, d, t, os⟩) : codeAny (model prog w) A (.builtin newId ⟨[.ref C], [(fld, v)]⟩) R ⟨h, g, d, t, os⟩ := by
  have ends := F.ends
  have isB : (Value.ref C :: bm).contains (.type B) = true := by rw [List.contains_cons, hT, F.hasB, Bool.or_true]
  have noA : (Value.ref C :: bm).contains (.type "AttributeError") = false := by rw [List.contains_cons, hT, F.noAttr]; rfl
  have noN : (Value.ref C :: bm).contains (.type "NameError") = false := by rw [List.contains_cons, hT, F.noName]; rfl
  refine codeAny_builtinAt F.entry ?_
  unfold Builtin.«BaseException.__new__»
  refine PySem.wpAt_bind ?_
  show PySem.wpAt _ _ _ (stack >>= _) _ _ _
  refine PySem.wpAt_bind (PySem.wpAt_stack fun p below => PySem.wpAt_of_wpAny ?_)
  wp_walk
  refine PySem.wpAt_of_wpAny ?_
  rw [F.owner]
  repeat (first | with_reducible refine wpAny_madeHere_exc F.canon cls ?_ | with_reducible refine wpAny_loadPart_at cls ?_ | (with_reducible refine wpAny_isSubtype_exc cls ?_; first | rw [isB] | rw [noA] | rw [noN]) | wp_step)
  show R _ _
  rw [Heap.size_push]
  exact k
end
end RW
/-! RwErrK2: C(fld = v) of an own error: type.__call__, the value. -/
namespace RW
open PySem PySem.W PySem.Calls PyProof.Rows PySem.HandSPX
section
variable {prog : Program} {w : World} {A : Around} {M : Model} {E : Value → Shared → Prop} {R : Result → Shared → Prop} {h : Heap} {g : Array GenState} {d : Drawn} {t : Nat} {os : OsState}
variable {nm q : Str} {C N : Addr} {bs bm bmB : List Value} {hdct : Bool} {sn : List Str} {sub : List Value} {ab : Bool} {col : Option Bool} {dd : Option Addr} {k0 k1 k2 k3 k5 : Option Value} {B newId initId : String} {fld : Str} {v : Value}
theorem kw_check (F : ExcBaseFacts B newId initId bmB) (hT : ∀ X : String, bm.contains (.type X) = bmB.contains (.type X)) {Q : Unit → Shared → Prop}
    (cls : h.get? C = some (excClassObj nm q C N bs bm hdct sn sub ab col dd k0 k1 k2 k3 k5 newId)) (z : Q () ⟨h, g, d, t, os⟩) : wpAny M A (checkBuiltinCall newId ⟨[.ref C], [(fld, v)]⟩) Q E ⟨h, g, d, t, os⟩ := by
  have isB : (Value.ref C :: bm).contains (.type B) = true := by rw [List.contains_cons, hT, F.hasB, Bool.or_true]
  have st := F.noStar
  simp only [checkBuiltinCall, F.newKind, F.newSplit, F.newRow]
  repeat (first | refine wpAny_loadPart_at cls ?_ | (refine wpAny_isSubtype_exc cls ?_; rw [isB]) | refine wpAny_staticBase_exc cls ?_ | refine wpAny_madeBy_exc cls ?_ | simp only [bne_self_eq_false, Bool.false_eq_true, if_false] | wp_step)
  exact z
theorem kw_type_call (F : ExcBaseFacts B newId initId bmB) (hT : ∀ X : String, bm.contains (.type X) = bmB.contains (.type X)) {fI : Addr} {Q : Fin → Shared → Prop} (cls : h.get? C = some (excClassObj nm q C N bs bm hdct sn sub ab col dd k0 k1 k2 k3 k5 newId))
    (li : W.Looks (model prog w) h (typeLookup (.ref C) "__init__") (some (.ref fI))) (lb : ∀ self, W.Looks (model prog w) h (bindSpecial (.ref fI) self) (.ref fI, [self]))
    (run : codeAny (model prog w) A (.call (.ref fI) ⟨[.ref (h.objs.size + 1)], [(fld, v)]⟩) (fun r s' => match r with | .ok (.ret u) => u = .none ∧ Q (.done (.ret (.ref (h.objs.size + 1)))) s' | .ok _ => False | .error e => E e s')
      ⟨(h.push (W.kdv_tup [])).push (excO C h.objs.size), g, d, t, os⟩) : wpAny (model prog w) A (Builtin.«type.__call__» ⟨[.ref C], [(fld, v)]⟩) Q E ⟨h, g, d, t, os⟩ := by
  repeat (first | with_reducible refine wpAny_loadPart_at cls ?_ | with_reducible refine wpAny_madeBy_exc cls ?_ | wp_step)
  refine codeAny_call_builtin_code (Code.quiet_builtin _ F.quiet) (kw_check F hT cls ?_)
  refine kw_new F hT cls ?_
  show wpAny _ _ _ _ _ _
  have up : ∀ b o, h.get? b = some o → ((h.push (W.kdv_tup [])).push (excO C h.objs.size)).get? b = some o := fun b o e => Heap.get?_push_of_some _ (Heap.get?_push_of_some _ e)
  have cls1 := up _ _ cls
  have made : ((h.push (W.kdv_tup [])).push (excO C h.objs.size)).get? (h.objs.size + 1) = some (excO C h.objs.size) := by heap_get
  have isC : (Value.ref C :: bm).contains (.ref C) = true := by simp
  have li1 := li.keeps up
  have lb1 := (lb (.ref (h.objs.size + 1))).keeps up
  unfold isInstance
  repeat (first | with_reducible refine wpAny_loadPart_at made ?_ | (with_reducible refine wpAny_isSubtype_exc cls1 ?_; rw [isC]) | wp_step)
  show wpAny _ _ (typeLookup (.ref C) _) _ _ _
  refine li1.at ?_
  refine wpAny_holding (wpAny_bind (lb1.at ?_))
  refine wpAny_bind (wpAny_call (codeAny_mono run fun r s' y => ?_))
  rcases r with e | (u | _ | _ | _) <;> first | exact y | exact y.elim | skip
  obtain ⟨rfl, y⟩ := y
  first
    | exact wpAny_pure (wpAny_pure y)
    | (wp_walk; exact y)
theorem kw_call (F : ExcBaseFacts B newId initId bmB) (hT : ∀ X : String, bm.contains (.type X) = bmB.contains (.type X)) {fI : Addr} (cls : h.get? C = some (excClassObj nm q C N bs bm hdct sn sub ab col dd k0 k1 k2 k3 k5 newId))
    (li : W.Looks (model prog w) h (typeLookup (.ref C) "__init__") (some (.ref fI))) (lb : ∀ self, W.Looks (model prog w) h (bindSpecial (.ref fI) self) (.ref fI, [self]))
    (run : codeAny (model prog w) (A.under (.builtin "type.__call__" ⟨[.ref C], [(fld, v)]⟩)) (.call (.ref fI) ⟨[.ref (h.objs.size + 1)], [(fld, v)]⟩) (W.InitBack (h.objs.size + 1) R) ⟨(h.push (W.kdv_tup [])).push (excO C h.objs.size), g, d, t, os⟩) :
    codeAny (model prog w) A (.call (.ref C) ⟨[], [(fld, v)]⟩) R ⟨h, g, d, t, os⟩ := by
  have f1 := tc_lookup
  have f2 := tc_bind (.ref C)
  have ty : (⟨h, g, d, t, os⟩ : Shared).TypeIs (.ref C) "type" := ⟨_, cls, rfl⟩
  refine codeAny_of_tree ?_
  show wpAny _ _ (callAny (.ref C) _) _ _ _
  repeat (any_goals (first | assumption | with_reducible refine wpAny_loadPart_at cls ?_ | wp_step))
  refine ⟨rfl, ?_⟩
  refine codeAny_call_builtin_at (Code.quiet_builtin _ (by decide +kernel)) entry_typeCall (wpAny_check_type_call_sub cls (kw_type_call F hT cls li lb ?_))
  refine codeAny_mono run fun r s' y => ?_
  rcases r with e | (u | _ | _ | _) <;> exact y
end
section
variable {prog : Program} {w : World} {A : Around} {E : Value → Shared → Prop} {R : Result → Shared → Prop} {s : Shared} {K : Frag} {mg : Str → Option Value} {C fI : Addr} {nm fld msg : Str}
theorem err_madeK (T : ErrTxt prog K mg nm C fI fld msg) {v : Value} (X : K.In s.heap) (lim : s.heap.NoLimit) (G : s.heap.Ns mainGlobals mg) (B : ∃ mb, s.heap.Ns builtinsNs mb ∧ ∀ x : Str, x ≠ "__name__" → mb x = bootBuiltins x) (room : A.depth + 1 < recursionLimit)
    (z : ∀ h' tk e d, OwnMade s.heap h' e C d fld v → R (.ok (.ret (.ref e))) { s with heap := h', toks := tk }) :
    codeAny (model prog w) A (.call (.ref C) ⟨[], [(fld, v)]⟩) R s := by
  obtain ⟨nm', q, N, bs, bm, sn, sub, ab, col, dd, k0, k1, k2, k3, k5, cls, ve⟩ := T.cls
  obtain ⟨hp, g, dr, tk, os⟩ := s
  have up : ∀ b o, hp.get? b = some o → ((hp.push (kdv_tup [])).push (excO C hp.objs.size)).get? b = some o := fun b o e => Heap.get?_push_of_some _ (Heap.get?_push_of_some _ e)
  have made : ((hp.push (kdv_tup [])).push (excO C hp.objs.size)).get? (hp.objs.size + 1) = some (excO C hp.objs.size) := by heap_get
  have out : K.lookup (hp.objs.size + 1) = none := by
    cases e : K.lookup (hp.objs.size + 1) with
    | none => rfl
    | some o =>
      have y : hp.get? (hp.objs.size + 1) = some o := X _ _ e
      exact absurd (Nat.lt_of_succ_lt (Heap.lt_size y)) (Nat.lt_irrefl _)
  refine kw_call F.excBase_ValueError (fun X => refsVE_contains X bm ve) (X _ _ cls) (looks_findIn X T.iC) (fun self => bind_fn X self T.tC) ?_
  refine err_init (v := v) (s := ⟨(hp.push (kdv_tup [])).push (excO C hp.objs.size), g, dr, tk, os⟩) T (X.keeps up) (lim.keeps up) (G.keeps up) (let ⟨mb, b1, b2⟩ := B; ⟨mb, b1.keeps up, b2⟩) made ?_ out (fun h' tk' dx t1 ⟨k', hx, dn, dne, hns⟩ => ?_) (.inr rfl)
  · show A.depth + 1 < recursionLimit
    exact room
  · have old : ∀ b o, hp.get? b = some o → h'.get? b = some o := fun b o e => k' b o (Nat.ne_of_lt (Nat.lt_succ_of_lt (Heap.lt_size e))) (up b o e)
    have big : hp.objs.size + 1 + 1 ≤ dx := by
      first
        | (simpa only [Heap.size_push] using dn)
        | exact dn
        | (have q := dn; rw [Heap.size_push, Heap.size_push] at q; exact q)
    exact ⟨rfl, z h' tk' (hp.objs.size + 1) dx ⟨old, Nat.le_succ _, ⟨_, _, hx, rfl, rfl, rfl, rfl⟩, Nat.le_trans (Nat.le_trans (Nat.le_succ _) (Nat.le_succ _)) big, dne, hns⟩⟩
end
end RW
namespace RW
open PySem PySem.Spec PyProof.Rows L2
variable [Tbl]
section
variable {X : Cx} {C fI : Addr} {nm fld msg : Str}
theorem made_vK {pinned : List (Addr × Obj)} {σ : L2.St} {H1 : Hp} {st : Shared} {Q : VK} {k : Nat} {v : V} {v' : Value} (T : ErrTxt X.prog X.K X.mg nm C fI fld msg) (hr : Room k X.A) (I : Inv X pinned σ H1 st) (rv : RelV v v')
    (q : ∀ d e, H1 d = none → H1 e = none → d ≠ e → Q (.ref e) (upd (upd H1 d (.xd [(fld, v)])) e (ExK C (some d) e))) : wpAny (model X.prog X.w) X.A (call (.ref C) [] [(fld, v')]) (EP X pinned σ Q) X.xe st := by
  have lim := I.nolimit
  have G := I.mod.glob.keeps I.bk
  obtain ⟨mb, b1, b2⟩ := I.mod.blt
  refine wpAny_call (err_madeK T I.kIn lim G ⟨mb, b1.keeps I.bk, b2⟩ (by have := hr.dp; omega) fun h' tk e d M => ?_)
  obtain ⟨oe, fv, hoe, hc, hd, hdat, h1⟩ := M.obj
  have new : ObjOk X.prog X.w (upd H1 d (.xd [(fld, v)])) h' d (.xd [(fld, v)]) := ⟨_, M.ns.at (fun o z => z), fun f => relO_fld rv f⟩
  have own : ObjOk X.prog X.w (upd (upd H1 d (.xd [(fld, v)])) e (ExK C (some d) e)) h' e (ExK C (some d) e) := ⟨⟨oe, fv, hoe, hc, hd, hdat⟩, ⟨oe, hoe⟩, fun g g' ⟨o2, vs2, a1, a2, a3, a4⟩ stay => ⟨o2, vs2, stay _ a1, a2, a3, a4⟩⟩
  exact ⟨.ref e, _, laid_two (t' := tk) I M.keep M.dbig M.new M.dne new own, rfl, q d e (I.hok.fresh M.dbig) (I.hok.fresh M.new) M.dne⟩
theorem pe_errVK {a : Expr} {ta : TA} {p pos kp : Pos} {k : Nat} (T : ErrTxt X.prog X.K X.mg nm C fI fld msg) (hr : Room k X.A) (ha : PK X [⟨some fld, a, kp⟩] ta) (hg : Gl X nm := by rfl) (hdb : (nm == ("__debug__" : Str)) = false := by decide)
    (hall : (backToKw pos (keywordEach [⟨some fld, a, kp⟩] X.env)).all (·.1.isSome) = true := by rfl) (hks : (backToKw pos (keywordEach [⟨some fld, a, kp⟩] X.env)).filterMap (·.1) = [fld] := by rfl)
    (hpl : ((backTo pos (starEach [] X.env)).any (·.1) || (backToKw pos (keywordEach [⟨some fld, a, kp⟩] X.env)).any (·.1.isNone)) = false := by rfl) : PE X (.Call (.Name nm p) [] [⟨some fld, a, kp⟩] pos) (tErrV C fld ta) := by
  refine ⟨fun pinned st σ H Q I h => ?_⟩
  refine wpAny_Call_Name_kw (ld_glob I hg T.gC ?_ hdb)
  refine PySem.W.callWith_KW0 (h₀ := X.base) I.ok.mod.kin T.kC hall ?_ hpl
  refine thn (ha.run pos pinned st σ H _ I h) fun us st1 ⟨vs, H1, J, r1, v, ev, q⟩ => ⟨J.kIn, ?_⟩
  subst ev
  rw [hks]
  cases r1 with
  | cons rv rn =>
    cases rn
    exact made_vK T hr J rv q
end
theorem me_errVK {E : XK} {X : Cx} {C fI : Addr} {nm fld msg : Str} {a : Expr} {t : MA} {p pos kp : Pos} {k : Nat} (T : ErrTxt X.prog X.K X.mg nm C fI fld msg) (hr : Room k X.A) (ha : MKJ E X [⟨some fld, a, kp⟩] t) (hg : Gl X nm := by rfl) (hdb : (nm == ("__debug__" : Str)) = false := by decide)
    (hall : (backToKw pos (keywordEach [⟨some fld, a, kp⟩] X.env)).all (·.1.isSome) = true := by rfl) (hks : (backToKw pos (keywordEach [⟨some fld, a, kp⟩] X.env)).filterMap (·.1) = [fld] := by rfl)
    (hpl : ((backTo pos (starEach [] X.env)).any (·.1) || (backToKw pos (keywordEach [⟨some fld, a, kp⟩] X.env)).any (·.1.isNone)) = false := by rfl) : ME E X (.Call (.Name nm p) [] [⟨some fld, a, kp⟩] pos) (mErrV nm fld t) := by
  refine ⟨PE.imp (pe_errVK T hr ha.pk hg hdb hall hks hpl) fun σ H Q ⟨g, B0, ρ, env, S, R, N, q⟩ => ?_, fun env S Q Q' E E' h hx q => ha.mono _ _ _ _ _ _ (fun w S' ⟨x, a, b⟩ => ⟨x, a, h _ _ b⟩) hx q⟩
  refine tMA.go ha.mono R N q (fun _ z => z) fun ws S1 ⟨x, ew, q1⟩ g1 ρ1 H1 vs R1 e1 r1 => ?_
  subst ew
  cases r1 with
  | cons rx rn =>
    cases rn
    rename_i v
    refine ⟨v, rfl, fun d e hd he ne => ?_⟩
    obtain ⟨R2, e2, _⟩ := R1.new (o := .xd [(fld, v)]) hd
    obtain ⟨R3, e3, nb⟩ := R2.new (p := e) (o := ExK C (some d) e) (by rw [upd_ne (Ne.symm ne)]; exact he)
    have rx' : RV (ctx X) g1 (Bad g1 B0 ρ1 S1) H1 x v := rx
    exact q1 _ _ _ _ R3 ((e1.trans e2).trans e3) (RV.exc1 T.gC upd_same nb (by rw [upd_ne ne, upd_same]) (.cons (rx'.mono (e2.trans e3).up) .nil))
end RW
/-! RwRepr: repr of data with dicts within. -/
namespace RW
open PySem PySem.Spec PyProof.Rows L2
variable [Tbl]
mutual
def toPyX : D → Option PyData
  | .non => some .none
  | .bl b => some (.bool b)
  | .int i => some (.int i)
  | .str x => some (.str x)
  | .tup xs => (toPysX xs).map .tuple
  | .lst xs => (toPysX xs).map .list
  | .dic xs => (toPyKs xs).map .dict
  | _ => none
def toPysX : List D → Option (List PyData)
  | [] => some []
  | x :: xs => match toPyX x, toPysX xs with
    | some p, some ps => some (p :: ps)
    | _, _ => none
def toPyKs : List (D × D) → Option (List (PyData × PyData))
  | [] => some []
  | x :: xs => match toPyX x.1, toPyX x.2, toPyKs xs with
    | some k, some p, some ps => some ((k, p) :: ps)
    | _, _, _ => none
end
/-- sys.modules stands in the written part -/
def SysD (K : PySem.W.Frag) : Prop := ∃ o, K.lookup sysModules = some o ∧ o.cls = .type "dict"
/-- read off the heap, sys.modules not within -/
def RdX (h : Heap) (u : Value) (p : PyData) : Prop := ∃ as, Reads h u p as ∧ sysModules ∉ as
def RdsX (h : Heap) (us : List Value) (ps : List PyData) : Prop := ∃ as, ReadsAll h us ps as ∧ sysModules ∉ as
theorem RdsX.cons {h : Heap} {u : Value} {us : List Value} {p : PyData} {ps : List PyData} (a : RdX h u p) (b : RdsX h us ps) : RdsX h (u :: us) (p :: ps) := by
  obtain ⟨as, a1, a2⟩ := a
  obtain ⟨bs, b1, b2⟩ := b
  exact ⟨as ++ bs, .cons a1 b1, fun z => (List.mem_append.mp z).elim a2 b2⟩
theorem RdsX.nil {h : Heap} : RdsX h [] [] := ⟨[], .nil, by simp⟩
def keyPy : Key → PyData
  | .inl i => .int i
  | .inr x => .str x
theorem toPyX_kD (k : Key) : toPyX (kD k) = some (keyPy k) := by cases k <;> rfl
theorem toPysX_kD : ∀ ks : List Key, toPysX (ks.map kD) = some (ks.map keyPy)
  | [] => by simp [toPysX]
  | k :: ks => by
    rw [List.map_cons, toPysX, toPyX_kD, toPysX_kD ks] <;> rfl
theorem rdX_key {h : Heap} {k : Key} {u : Value} (r : RelV (kV k) u) : RdX h u (keyPy k) := by
  cases k with
  | inl i => obtain ⟨t, rfl⟩ := r; exact ⟨[], .int i t, by simp⟩
  | inr x => obtain ⟨t, rfl⟩ := r; exact ⟨[], .str x t, by simp⟩
theorem rdsX_keys {h : Heap} : ∀ {ks : List Key} {us : List Value}, Vals (ks.map kV) us → RdsX h us (ks.map keyPy)
  | [], _, .nil => .nil
  | _ :: _, _, .cons r t => .cons (rdX_key r) (rdsX_keys t)
theorem rdX_keyIs {h : Heap} {k : Key} {u : Value} (e : keyIs k u = true) : RdX h u (keyPy k) := by
  rcases keyIs_shape e with ⟨i, t, rfl, rfl⟩ | ⟨x, t, rfl, rfl⟩
  · exact ⟨[], .int i t, by simp⟩
  · exact ⟨[], .str x t, by simp⟩
section
variable {X : Cx} {pins : List (Addr × Obj)} {σ : L2.St} {H : Hp} {s : Shared} {g : Gh} {B : Addr → Prop}
theorem sys_free (sy : SysD X.K) (I : Inv X pins σ H s) : H sysModules = none := by
  obtain ⟨o, h1, _⟩ := sy
  exact (I.bs _ _ (I.ok.mod.kin _ _ h1)).2
theorem rdX_lst (sy : SysD X.K) (I : Inv X pins σ H s) {a : Addr} {vs : List V} {ps : List PyData} (h : NdL (ctx X) B H a vs) (r : ∀ us, Vals vs us → RdsX s.heap us ps) : RdX s.heap (.ref a) (.list ps) := by
  have ne : a ≠ sysModules := fun e => by
    subst e
    rcases h with ⟨h, _⟩ | ⟨o, h⟩ | ⟨o, its, n, h, hc, _⟩
    · rw [sys_free sy I] at h; cases h
    · rw [sys_free sy I] at h; cases h
    · obtain ⟨o', h1, h2⟩ := sy
      rw [show X.K.lookup sysModules = some o from h] at h1
      cases h1
      rw [hc] at h2
      exact absurd h2 (by decide)
  obtain ⟨its, rv, hl, _⟩ := I.list h.sq
  obtain ⟨as, h1, h2⟩ := r its rv
  obtain ⟨o, ho, hc, n, hd⟩ : ∃ o, s.heap.get? a = some o ∧ o.cls = .type "list" ∧ ∃ n, o.data = .seq its.toArray n := by
    obtain ⟨o, n, e1, e2, _, e3⟩ := hl
    exact ⟨o, e1, e2, n, e3⟩
  refine ⟨a :: as, .list ho hc hd (by simpa using h1), fun z => ?_⟩
  rcases List.mem_cons.mp z with z | z
  · exact ne z.symm
  · exact h2 z
theorem rdX_tup (I : Inv X pins σ H s) {a : Addr} {vs : List V} {ps : List PyData} (h : SqT X.K H a vs) (r : ∀ us, Vals vs us → RdsX s.heap us ps) : RdX s.heap (.ref a) (.tuple ps) := by
  obtain ⟨its, rv, ⟨o, ho, hc, n, hd⟩, _⟩ := I.tuple h
  obtain ⟨as, h1, h2⟩ := r its rv
  exact ⟨as, .tuple ho hc hd (by simpa using h1), h2⟩
theorem rdX_dic {a : Addr} {o : Obj} {es : Array DictEntry} {ep : Nat} {q : List (PyData × PyData)} (ne : (a == sysModules) = false) (ho : s.heap.get? a = some o) (hx : o.ExactDict) (hd : o.data = .dict es ep)
    (ks : RdsX s.heap (es.toList.map (·.key)) (q.map (·.1))) (vs : RdsX s.heap (es.toList.map (·.val)) (q.map (·.2))) : RdX s.heap (.ref a) (.dict q) := by
  obtain ⟨as, h1, h2⟩ := ks
  obtain ⟨bs, k1, k2⟩ := vs
  refine ⟨a :: as ++ bs, .dict ho hx.1 hd h1 k1, fun z => ?_⟩
  rcases List.mem_append.mp z with z | z
  · rcases List.mem_cons.mp z with z | z
    · rw [z] at ne; simp at ne
    · exact h2 z
  · exact k2 z
mutual
theorem RV.rdX (sy : SysD X.K) (I : Inv X pins σ H s) : ∀ (d : D) (v : V) (u : Value) (p : PyData), RV (ctx X) g B H d v → toPyX d = some p → RelV v u → RdX s.heap u p
  | .non, _, _, _, h, e, r => by cases h; cases e; cases r; exact ⟨[], .none, by simp⟩
  | .bl b, _, _, _, h, e, r => by cases h; cases e; cases r; exact ⟨[], .bool b, by simp⟩
  | .int i, _, _, _, h, e, r => by cases h; cases e; obtain ⟨t, rfl⟩ := r; exact ⟨[], .int i t, by simp⟩
  | .str x, _, _, _, h, e, r => by cases h; cases e; obtain ⟨t, rfl⟩ := r; exact ⟨[], .str x t, by simp⟩
  | .tup xs, _, _, p, h, e, r => by
    cases h with
    | tup h rs =>
      cases r
      unfold toPyX at e
      cases q : toPysX xs with
      | none => rw [q] at e; cases e
      | some ps => rw [q] at e; cases e; exact rdX_tup I (.inl (.inl h)) fun us rv => RVs.rdX sy I xs _ _ _ rs q rv
  | .lst xs, _, _, p, h, e, r => by
    cases h with
    | lst h rs =>
      cases r
      unfold toPyX at e
      cases q : toPysX xs with
      | none => rw [q] at e; cases e
      | some ps => rw [q] at e; cases e; exact rdX_lst sy I h fun us rv => RVs.rdX sy I xs _ _ _ rs q rv
  | .dic xs, v, _, p, h, e, r => by
    unfold toPyX at e
    cases q : toPyKs xs with
    | none => rw [q] at e; cases e
    | some ps =>
      rw [q] at e
      cases e
      cases h with
      | @dicK a kvs _ ob hk rk =>
        cases r
        obtain ⟨_, _, ne, vs, kv, o, es, ep, ho, hx, hd, _, pr, _⟩ := (show ObjOk X.prog X.w H s.heap a (.frz ob (.dK kvs)) from I.hok a _ hk)
        obtain ⟨h1, h2⟩ := RKs.rdX sy I xs kvs vs es.toList ps rk q kv pr
        exact rdX_dic ne ho hx hd h1 h2
      | @dicT a kvs _ ob hk rk =>
        cases r
        obtain ⟨_, _, ne, xs', kv, o, es, ep, ho, hx, hd, he, _⟩ := (show ObjOk X.prog X.w H s.heap a (.frz ob (.dT kvs)) from I.hok a _ hk)
        obtain ⟨h1, h2⟩ := RTs.rdX sy I xs kvs xs' ps rk q kv
        rw [← he] at h1 h2
        exact rdX_dic ne ho hx hd h1 h2
  | .ins _ _, _, _, _, _, e, _ => by simp [toPyX] at e
  | .exc _ _, _, _, _, _, e, _ => by simp [toPyX] at e
  | .gl _, _, _, _, _, e, _ => by simp [toPyX] at e
  | .drw, _, _, _, _, e, _ => by simp [toPyX] at e
  | .ty _, _, _, _, _, e, _ => by simp [toPyX] at e
  | .act _ _ _, _, _, _, _, e, _ => by simp [toPyX] at e
theorem RVs.rdX (sy : SysD X.K) (I : Inv X pins σ H s) : ∀ (ds : List D) (vs : List V) (us : List Value) (ps : List PyData), RVs (ctx X) g B H ds vs → toPysX ds = some ps → Vals vs us → RdsX s.heap us ps
  | [], _, _, _, h, e, r => by cases h; unfold toPysX at e; cases e; cases r; exact .nil
  | d :: ds, _, _, _, h, e, r => by
    cases h with
    | cons h rs =>
      cases r with
      | cons r1 r2 =>
        unfold toPysX at e
        cases q1 : toPyX d with
        | none => rw [q1] at e; simp at e
        | some p =>
          cases q2 : toPysX ds with
          | none => rw [q1, q2] at e; simp at e
          | some ps => rw [q1, q2] at e; cases e; exact .cons (RV.rdX sy I d _ _ _ h q1 r1) (RVs.rdX sy I ds _ _ _ rs q2 r2)
theorem RKs.rdX (sy : SysD X.K) (I : Inv X pins σ H s) : ∀ (xs : List (D × D)) (kvs : List (Key × V)) (vs : List (Key × Value)) (es : List DictEntry) (ps : List (PyData × PyData)), RKs (ctx X) g B H xs kvs → toPyKs xs = some ps → KV kvs vs → Pairs (mixKind X.prog X.w) es vs →
    RdsX s.heap (es.map (·.key)) (ps.map (·.1)) ∧ RdsX s.heap (es.map (·.val)) (ps.map (·.2))
  | [], _, _, _, _, h, e, r, pr => by cases h; unfold toPyKs at e; cases e; cases r; cases pr; exact ⟨.nil, .nil⟩
  | (_, d) :: xs, _, _, _, _, h, e, r, pr => by
    cases h with
    | @cons k _ _ _ _ h rs =>
      cases r with
      | cons r1 r2 =>
        cases pr with
        | cons p1 p2 p3 =>
          unfold toPyKs at e
          rw [show toPyX (kD k, d).1 = some (keyPy k) from toPyX_kD k] at e
          cases q1 : toPyX d with
          | none => rw [show toPyX (kD k, d).2 = none from q1] at e; simp at e
          | some p =>
            cases q2 : toPyKs xs with
            | none => rw [show toPyX (kD k, d).2 = some p from q1, q2] at e; simp at e
            | some ps =>
              rw [show toPyX (kD k, d).2 = some p from q1, q2] at e
              cases e
              obtain ⟨a1, a2⟩ := RKs.rdX sy I xs _ _ _ _ rs q2 r2 p3
              obtain ⟨e1, e2⟩ := r1
              refine ⟨.cons (rdX_keyIs (k := k) ?_) a1, .cons ?_ a2⟩
              · have e1' : k = _ := e1
                rw [e1']
                exact p1
              · show RdX s.heap (DictEntry.val _) p
                rw [p2]
                exact RV.rdX sy I d _ _ _ h q1 e2
theorem RTs.rdX (sy : SysD X.K) (I : Inv X pins σ H s) : ∀ (xs : List (D × D)) (kvs : List (List Key × V)) (vs : List (List Key × Addr × Value)) (ps : List (PyData × PyData)), RTs (ctx X) g B H xs kvs → toPyKs xs = some ps →
    Paired (fun (p : List Key × V) (q : List Key × Addr × Value) => p.1 = q.1 ∧ H q.2.1 = some (.tup (p.1.map kV)) ∧ RelV p.2 q.2.2) kvs vs →
    RdsX s.heap ((vs.map (entryOfKey (tupleKind (mixKind X.prog X.w)))).map (·.key)) (ps.map (·.1)) ∧ RdsX s.heap ((vs.map (entryOfKey (tupleKind (mixKind X.prog X.w)))).map (·.val)) (ps.map (·.2))
  | [], _, _, _, h, e, r => by cases h; unfold toPyKs at e; cases e; cases r; exact ⟨.nil, .nil⟩
  | (_, d) :: xs, _, _, _, h, e, r => by
    cases h with
    | @cons k _ _ _ _ h rs =>
      cases r with
      | cons r1 r2 =>
        unfold toPyKs at e
        rw [show toPyX (D.tup (k.map kD), d).1 = some (.tuple (k.map keyPy)) by show toPyX (.tup _) = _; rw [toPyX, toPysX_kD] <;> rfl] at e
        cases q1 : toPyX d with
        | none => rw [show toPyX (D.tup (k.map kD), d).2 = none from q1] at e; simp at e
        | some p =>
          cases q2 : toPyKs xs with
          | none => rw [show toPyX (D.tup (k.map kD), d).2 = some p from q1, q2] at e; simp at e
          | some ps =>
            rw [show toPyX (D.tup (k.map kD), d).2 = some p from q1, q2] at e
            cases e
            obtain ⟨a1, a2⟩ := RTs.rdX sy I xs _ _ _ rs q2 r2
            obtain ⟨e1, e2, e3⟩ := r1
            refine ⟨.cons ?_ a1, .cons ?_ a2⟩
            · exact rdX_tup I (.inl (.inl e2)) fun us rv => rdsX_keys rv
            · exact RV.rdX sy I d _ _ _ h q1 e3
end
theorem RR.rdX (sy : SysD X.K) (I : Inv X pins σ H s) {d : D} {v : V} {u : Value} {p : PyData} (h : RR (ctx X) g B H d v) (e : toPyX d = some p) (r : RelV v u) : RdX s.heap u p := by
  cases h with
  | rv h => exact RV.rdX sy I _ _ _ _ h e r
  | @ls a vs xs h rs =>
    cases r
    unfold toPyX at e
    cases q : toPysX xs with
    | none => rw [q] at e; cases e
    | some ps =>
      rw [q] at e
      cases e
      exact rdX_lst (B := fun _ => False) sy I (.inl ⟨h, id⟩) fun us rv => RVs.rdX sy I xs _ _ _ rs q rv
end
def shownX (d : D) : Str := match toPyX d with
  | some p => p.shown
  | none => ⟨#[]⟩
/-- a list, a tuple, a dict -/
def isObj : D → Bool
  | .tup _ => true
  | .lst _ => true
  | .dic _ => true
  | _ => false
def cReprX (d : D) : Prop := isObj d = true ∧ ∃ p, toPyX d = some p ∧ p.showable = true ∧ p.depth ≤ 64 ∧ p.shown.length ≤ line
theorem RR.obj {C : Cxt} {g : Gh} {B : Addr → Prop} {H : Hp} {d : D} {v : V} (h : RR C g B H d v) (o : isObj d = true) : ∃ a, v = .ref a := by
  cases h with
  | rv h => cases h <;> first | exact ⟨_, rfl⟩ | (simp [isObj] at o)
  | ls h r => exact ⟨_, rfl⟩
theorem cr_reprX {X : Cx} (hgd : X.A.guards = some []) (hu : X.A.units + 65 < cLine) : CallR X (.builtin "repr") (fun xs H Q => ∃ a p, xs = [.ref a] ∧ (∀ pins σ s, Inv X pins σ H s → RdX s.heap (.ref a) p) ∧ p.showable = true ∧ p.depth ≤ 64 ∧ p.shown.length ≤ line ∧ Q (.str p.shown) H) := by
  intro pins s σ H xs us Q I r h
  obtain ⟨a, p, rfl, hd, hs, hdp, hl, q⟩ := h
  obtain ⟨u, rfl, ru⟩ := vals1 r
  cases ru
  obtain ⟨as, rr, ns⟩ := hd _ _ _ I
  exact repr_of_reads' rr hs (fun _ => ns) hgd (by omega) (fun _ _ e => e) (fun h' u tk hk => ⟨.str p.shown, H, I.kept hk, ⟨_, rfl⟩, q⟩) (line_le hl)
theorem b_reprX {X : Cx} (sy : SysD X.K) (hgd : X.A.guards = some []) (hu : X.A.units + 65 < cLine) : CallD X (.builtin "repr") (c1 cReprX) (f1 fun d => .str (shownX d)) := callD1 (cr_reprX hgd hu) fun g B0 ρ S H d v Q R rv ⟨hq, p, hp, h1, h3, h4⟩ k => by
  obtain ⟨a, e⟩ := rv.obj hq
  subst e
  refine ⟨a, p, rfl, fun pins σ s I => rv.rdX sy I hp rfl, h1, h3, h4, ?_⟩
  have := k H _ R Ext.refl (.str _)
  unfold shownX at this
  rw [hp] at this
  exact this
end RW
/-! RwLock: dicts of the store become data: locked from then on. -/
namespace RW
open PySem PySem.Spec PyProof.Rows L2
variable [Tbl]
def tLk (t : TE) : TE := fun σ H Q => t σ H fun v H1 => Q v H1 ∨ ∃ d u, v = .ref d ∧ H1 d = some u ∧ Mut (some u) ∧ ∀ od, Q v (upd H1 d (.frz od u))
theorem pe_lk {X : Cx} {e : Expr} {t : TE} (h : PE X e t) : PE X e (tLk t) := ⟨fun pins s σ H Q I q => thn (h.run pins s σ H _ I q) fun u s1 ⟨v, H1, I1, r, q1⟩ => by
  rcases q1 with q1 | ⟨d, w, ev, hd, mu, q1⟩
  · exact ⟨v, H1, I1, r, q1⟩
  · obtain ⟨od, I2⟩ := I1.lock hd mu
    exact ⟨v, _, I2, r, q1 od⟩⟩
section
variable {C : Cxt} {g : Gh} {B0 : Addr → Prop} {ρ : List Addr} {S : Sto} {H : Hp}
/-- an object of the store stops living, its place in the heap is written -/
theorem Rel.lockO (R : Rel C g B0 ρ S H) {i : Nat} {a : Addr} {u0 u : HO} {o0 o : O} (hi : S[i]? = some o0) (hl0 : o0.live = true) (ha : ρ[i]? = some a) (hl : o.live = false) (h0 : H a = some u0) (nI : ¬ Imm u0) :
    (Up g (Bad g B0 ρ S) H g (Bad g B0 ρ (S.set i o)) (upd H a u) ∧ ¬ Bad g B0 ρ (S.set i o) a ∧ Ext g B0 ρ S H g ρ (S.set i o) (upd H a u)) ∧
    (OR C g (Bad g B0 ρ (S.set i o)) ρ (upd H a u) o a → Rel C g B0 ρ (S.set i o) (upd H a u)) := by
  have hL := (List.getElem?_eq_some_iff.mp hi).1
  have k : ∀ b v, H b = some v → b ≠ a → upd H a u b = some v := fun b v e n => by rw [upd_ne n]; exact e
  have gS : ∀ {j : Nat} {x : O}, (S.set i o)[j]? = some x → (j ≠ i ∧ S[j]? = some x) ∨ (j = i ∧ x = o) := fun {j x} e => by
    by_cases hj : j = i
    · subst hj
      rw [List.getElem?_set_self hL] at e
      exact .inr ⟨rfl, (Option.some.inj e).symm⟩
    · rw [List.getElem?_set_ne (Ne.symm hj)] at e
      exact .inl ⟨hj, e⟩
  have dead : o.live ≠ true := by rw [hl]; exact Bool.false_ne_true
  have sub : ∀ b, Own g ρ (S.set i o) b → Own g ρ S b := fun b z => by
    rcases z with z | ⟨j, x, h1, h2, h3⟩
    · exact .inl z
    · rcases gS h1 with ⟨_, e⟩ | ⟨rfl, rfl⟩
      · exact .inr ⟨j, x, e, h2, h3⟩
      · exact absurd h2 dead
  have subB : ∀ b, Bad g B0 ρ (S.set i o) b → Bad g B0 ρ S b := fun b z => z.imp id (sub b)
  obtain ⟨o1, o2⟩ := R.out i _ a hi hl0 ha
  have ownA : Own g ρ S a := .inr ⟨i, o0, hi, hl0, ha⟩
  have free : ¬ Bad g B0 ρ (S.set i o) a := fun z => by
    rcases z with z | z | ⟨j, x, h1, h2, h3⟩
    · exact o1 z
    · exact o2 z
    · rcases gS h1 with ⟨n, e⟩ | ⟨rfl, rfl⟩
      · exact n (R.inj j i x _ a e hi h2 hl0 h3 ha)
      · exact dead h2
  have U : Up g (Bad g B0 ρ S) H g (Bad g B0 ρ (S.set i o)) (upd H a u) := ⟨fun b v e im => k b v e fun z => by rw [z, h0] at e; cases e; exact nI im, fun b v e n => ⟨k b v e fun z => n (z ▸ .inr ownA), fun z => n (subB b z)⟩, .refl⟩
  have E : Ext g B0 ρ S H g ρ (S.set i o) (upd H a u) := ⟨U.imm, fun b v e n => k b v e fun z => n (z ▸ ownA), fun b v e n z => n (sub b z), .refl, ⟨[], by simp⟩⟩
  refine ⟨⟨U, free, E⟩, fun ho => ⟨by rw [List.length_set]; exact R.len, fun j x b h1 h2 => ?_, fun j l x y b h1 h2 h3 h4 h5 h6 => ?_, fun j x b h1 h2 h3 => ?_, fun b z => ?_, R.dr.keep fun b v z e => k b v e fun q => ?_⟩⟩
  · rcases gS h1 with ⟨hj, e⟩ | ⟨rfl, rfl⟩
    · exact (R.obj j x b e h2).mono U ⟨[], by simp⟩ fun v ev lv => k b v ev fun z => hj (R.inj j i x o0 b e hi lv hl0 h2 (z ▸ ha))
    · rw [ha] at h2
      cases h2
      exact ho
  · have c : ∀ {j : Nat} {x : O}, (S.set i o)[j]? = some x → x.live = true → S[j]? = some x := fun {j x} e lx => by
      rcases gS e with ⟨_, e⟩ | ⟨rfl, rfl⟩
      · exact e
      · exact absurd lx dead
    exact R.inj j l x y b (c h1 h3) (c h2 h4) h3 h4 h5 h6
  · rcases gS h1 with ⟨_, e⟩ | ⟨rfl, rfl⟩
    · exact R.out j x b e h2 h3
    · exact absurd h2 dead
  · obtain ⟨v, e⟩ := R.b0 b z
    exact ⟨v, k b v e fun q => o1 (q ▸ z)⟩
  · rcases z with z | z
    · exact o2 (q ▸ z)
    · rw [q, h0] at e; cases e; exact nI z
def zipK (kvs : List (Key × W)) (xs : List D) : List (D × D) := List.zipWith (fun p x => (kD p.1, x)) kvs xs
def zipT (kvs : List (List Key × W)) (xs : List D) : List (D × D) := List.zipWith (fun p x => (D.tup (p.1.map kD), x)) kvs xs
theorem rks_dat {B : Addr → Prop} : ∀ {kvs : List (Key × W)} {vs : List (Key × V)} {xs : List D}, Paired (fun (p : Key × W) (q : Key × V) => p.1 = q.1 ∧ RW C g B ρ H p.2 q.2) kvs vs → datas (kvs.map (·.2)) = some xs → RKs C g B H (zipK kvs xs) vs
  | _, _, _, .nil, e => by cases e; exact .nil
  | (k, .d x) :: _, (_, v) :: _, _, .cons ⟨rfl, r⟩ t, e => by
    rw [List.map_cons] at e
    unfold datas at e
    obtain ⟨ys, h, rfl⟩ := Option.map_eq_some_iff.mp e
    exact .cons r (rks_dat t h)
  | (_, .ref _) :: _, _ :: _, _, .cons _ _, e => by cases e
theorem rts_dat {B : Addr → Prop} : ∀ {kvs : List (List Key × W)} {vs : List (List Key × V)} {xs : List D}, Paired (fun (p : List Key × W) (q : List Key × V) => p.1 = q.1 ∧ RW C g B ρ H p.2 q.2) kvs vs → datas (kvs.map (·.2)) = some xs → RTs C g B H (zipT kvs xs) vs
  | _, _, _, .nil, e => by cases e; exact .nil
  | (k, .d x) :: _, (_, v) :: _, _, .cons ⟨rfl, r⟩ t, e => by
    rw [List.map_cons] at e
    unfold datas at e
    obtain ⟨ys, h, rfl⟩ := Option.map_eq_some_iff.mp e
    exact .cons r (rts_dat t h)
  | (_, .ref _) :: _, _ :: _, _, .cons _ _, e => by cases e
end
/-- an object of the store as data -/
def frzO : O → Option D
  | .lst ws => (datas ws).map D.lst
  | .frz x => some x
  | .dK kvs => (datas (kvs.map (·.2))).map fun xs => D.dic (zipK kvs xs)
  | .dT kvs => (datas (kvs.map (·.2))).map fun xs => D.dic (zipT kvs xs)
  | _ => none
/-- the value, what the store holds as data (it stands still from now on) -/
def mFz (m : MX) : MX := fun env S Q E => m env S (fun w S1 => match w with
  | .d x => Q (.d x) S1
  | .ref i => ∃ o x, S1[i]? = some o ∧ frzO o = some x ∧ Q (.d x) (S1.set i (.frz x))) E
theorem set_same {S : Sto} {i : Nat} {o : O} (h : S[i]? = some o) : S.set i o = S := by
  refine List.ext_getElem? fun j => ?_
  by_cases hj : i = j
  · subst hj
    rw [List.getElem?_set_self (List.getElem?_eq_some_iff.mp h).1, h]
  · rw [List.getElem?_set_ne hj]
theorem me_fz {E : XK} {X : Cx} {e : Expr} {m : MX} (h : ME E X e m) : ME E X e (mFz m) := by
  refine ⟨PE.imp (pe_lk h.pe) fun σ H Q ⟨g, B0, ρ, env, S, R, N, q⟩ => ?_, fun env S Q Q' E E' k hx q => h.mono _ _ _ _ _ _ (fun w S1 z => by
    cases w with
    | d x => exact k _ _ z
    | ref i =>
      obtain ⟨o, x, a, b, c⟩ := z
      exact ⟨o, x, a, b, k _ _ c⟩) hx q⟩
  refine tM.go h.mono R N q (fun _ z => z) fun w S1 q1 g1 ρ1 H1 v1 R1 e1 r1 => ?_
  cases w with
  | d x => exact .inl (q1 g1 ρ1 H1 v1 R1 e1 r1)
  | ref i =>
    obtain ⟨o, x, hi, hd, q2⟩ := q1
    obtain ⟨a, ha, ev⟩ := r1
    subst ev
    cases o with
    | lst ws =>
      obtain ⟨xs, hx, rfl⟩ := Option.map_eq_some_iff.mp hd
      obtain ⟨R2, e2, rv⟩ := R1.freeze hi ha hx
      exact .inl (q2 g1 ρ1 H1 _ R2 (e1.trans e2) rv)
    | frz y =>
      cases hd
      rw [set_same hi] at q2
      exact .inl (q2 g1 ρ1 H1 _ R1 e1 (R1.obj i _ a hi ha))
    | dK kvs =>
      obtain ⟨xs, hx, rfl⟩ := Option.map_eq_some_iff.mp hd
      obtain ⟨vs, hv, pr⟩ := R1.obj i _ a hi ha
      refine .inr ⟨a, _, rfl, hv, trivial, fun od => ?_⟩
      obtain ⟨⟨U, fr, e2⟩, k⟩ := R1.lockO (u := .frz od (.dK vs)) (o := .frz (.dic (zipK kvs xs))) hi rfl ha rfl hv (fun z => z)
      have rv : RV (ctx X) g1 (Bad g1 B0 ρ1 (S1.set i (.frz (.dic (zipK kvs xs))))) (upd H1 a (.frz od (.dK vs))) (.dic (zipK kvs xs)) (.ref a) := .dicK upd_same (RKs.mono U (rks_dat pr hx))
      exact q2 g1 ρ1 _ _ (k rv) (e1.trans e2) rv
    | dT kvs =>
      obtain ⟨xs, hx, rfl⟩ := Option.map_eq_some_iff.mp hd
      obtain ⟨vs, hv, pr⟩ := R1.obj i _ a hi ha
      refine .inr ⟨a, _, rfl, hv, trivial, fun od => ?_⟩
      obtain ⟨⟨U, fr, e2⟩, k⟩ := R1.lockO (u := .frz od (.dT vs)) (o := .frz (.dic (zipT kvs xs))) hi rfl ha rfl hv (fun z => z)
      have rv : RV (ctx X) g1 (Bad g1 B0 ρ1 (S1.set i (.frz (.dic (zipT kvs xs))))) (upd H1 a (.frz od (.dT vs))) (.dic (zipT kvs xs)) (.ref a) := .dicT upd_same (RTs.mono U (rts_dat pr hx))
      exact q2 g1 ρ1 _ _ (k rv) (e1.trans e2) rv
    | ins c fs => cases hd
end RW
/-! RwDict: dicts as data: looked up, walked, counted, sorted, made of pairs. -/
namespace RW
open PySem PySem.Spec PyProof.Rows L2 SrtO
variable [Tbl]
/-! ### lists of int tuples -/
def intsT : D → Option (List Int)
  | .tup xs => intsD xs
  | _ => none
def tupsD (xs : List D) : Option (List (List Int)) := mapO intsT xs
def tupI (ns : List Int) : D := .tup (ns.map D.int)
theorem intsD_eq : ∀ {xs : List D} {ns : List Int}, intsD xs = some ns → xs = ns.map D.int
  | [], _, h => by cases h; rfl
  | x :: xs, ns, h => by
    cases x with
    | int i =>
      obtain ⟨ms, h1, rfl⟩ := Option.map_eq_some_iff.mp (show (intsD xs).map (i :: ·) = some ns from h)
      rw [List.map_cons, ← intsD_eq h1]
    | _ => cases h
theorem tupsD_eq : ∀ {xs : List D} {nss : List (List Int)}, tupsD xs = some nss → xs = nss.map tupI
  | [], _, h => by cases h; rfl
  | x :: xs, nss, h => by
    obtain ⟨b, c, h1, h2, rfl⟩ := mapO_cons h
    rw [List.map_cons, ← tupsD_eq h2]
    cases x with
    | tup ys => rw [show tupI b = .tup ys from congrArg D.tup (intsD_eq h1).symm]
    | _ => cases h1
theorem intsD_mapI : ∀ ns : List Int, intsD (ns.map D.int) = some ns
  | [] => rfl
  | x :: xs => by
    show (intsD (xs.map D.int)).map (x :: ·) = _
    rw [intsD_mapI xs] <;> rfl
theorem tupsD_map : ∀ nss : List (List Int), tupsD (nss.map tupI) = some nss
  | [] => rfl
  | ns :: nss => by
    show mapO intsT (tupI ns :: nss.map tupI) = _
    unfold mapO
    rw [show intsT (tupI ns) = some ns from intsD_mapI ns, show mapO intsT (nss.map tupI) = some nss from tupsD_map nss]
def srtL (nss : List (List Int)) : List (List Int) := nss.mergeSort fun a b => !lexL b a
theorem srtL_eq {out nss : List (List Int)} (h : out.Perm nss) (s : out.Pairwise fun a b => lexL b a = false) : out = srtL nss := by
  have t := List.pairwise_mergeSort (le := fun a b : List Int => !lexL b a) (fun a b c x y => by
    simp only [Bool.not_eq_true'] at *
    exact lexL_tr _ _ _ x y) (fun a b => by
    simp only [Bool.or_eq_true, Bool.not_eq_true']
    cases h : lexL b a with
    | false => exact .inl rfl
    | true => exact .inr (lexL_asym _ _ h)) nss
  exact List.Perm.eq_of_pairwise (le := fun a b => lexL b a = false) (fun a b _ _ x y => lexL_eq _ _ y x) s (t.imp fun h => by simpa using h) (h.trans (List.mergeSort_perm nss _).symm)
/-! ### keys -/
def keyEqK : D → Key → Bool
  | .int i, .inl j => decide (i = j)
  | .str x, .inr y => decide (x = y)
  | _, _ => false
def keyEqs : List D → List Key → Bool
  | [], [] => true
  | d :: ds, k :: ks => keyEqK d k && keyEqs ds ks
  | _, _ => false
def keyEqT : D → List Key → Bool
  | .tup ds, ks => keyEqs ds ks
  | _, _ => false
theorem keyEqK_kD (a k : Key) : keyEqK (kD a) k = decide (a = k) := by
  cases a <;> cases k <;> simp [keyEqK, kD]
theorem keyEqs_kD : ∀ a k : List Key, keyEqs (a.map kD) k = decide (a = k)
  | [], [] => by simp [keyEqs]
  | [], _ :: _ => by simp [keyEqs]
  | _ :: _, [] => by simp [keyEqs]
  | x :: a, y :: k => by
    show (keyEqK (kD x) y && keyEqs (a.map kD) k) = _
    rw [keyEqK_kD, keyEqs_kD a k]
    by_cases h1 : x = y <;> by_cases h2 : a = k <;> simp [h1, h2]
def dLookK (xs : List (D × D)) (k : Key) : Option D := (xs.find? fun p => keyEqK p.1 k).map (·.2)
def dLookT (xs : List (D × D)) (k : List Key) : Option D := (xs.find? fun p => keyEqT p.1 k).map (·.2)
section
variable {C : Cxt} {g : Gh} {B : Addr → Prop} {H : Hp}
theorem RKs.look {k : Key} : ∀ {xs : List (D × D)} {kvs : List (Key × V)}, RKs C g B H xs kvs → (∀ d, dLookK xs k = some d → ∃ v, valV kvs k = some v ∧ RV C g B H d v) ∧ (dLookK xs k = none → valV kvs k = none)
  | _, _, .nil => ⟨fun d h => (by cases h), fun _ => rfl⟩
  | _, _, .cons (k := a) (d := d) (v := v) (ds := ds) h r => by
    have ih := RKs.look (k := k) r
    have e : dLookK ((kD a, d) :: ds) k = if a = k then some d else dLookK ds k := by
      unfold dLookK
      rw [List.find?_cons]
      show Option.map _ (match keyEqK (kD a) k with | true => _ | false => _) = _
      rw [keyEqK_kD]
      by_cases z : a = k
      · rw [decide_eq_true z, if_pos z] <;> rfl
      · rw [decide_eq_false z, if_neg z]
    rw [e]
    by_cases z : a = k
    · rw [if_pos z, valV_pos z]
      exact ⟨fun d' q => (by cases q; exact ⟨_, rfl, h⟩), fun q => (by cases q)⟩
    · rw [if_neg z, valV_neg z]
      exact ih
theorem RTs.look {k : List Key} : ∀ {xs : List (D × D)} {kvs : List (List Key × V)}, RTs C g B H xs kvs → (∀ d, dLookT xs k = some d → ∃ v, valV kvs k = some v ∧ RV C g B H d v) ∧ (dLookT xs k = none → valV kvs k = none)
  | _, _, .nil => ⟨fun d h => (by cases h), fun _ => rfl⟩
  | _, _, .cons (k := a) (d := d) (v := v) (ds := ds) h r => by
    have ih := RTs.look (k := k) r
    have e : dLookT ((D.tup (a.map kD), d) :: ds) k = if a = k then some d else dLookT ds k := by
      unfold dLookT
      rw [List.find?_cons]
      show Option.map _ (match keyEqs (a.map kD) k with | true => _ | false => _) = _
      rw [keyEqs_kD]
      by_cases z : a = k
      · rw [decide_eq_true z, if_pos z] <;> rfl
      · rw [decide_eq_false z, if_neg z]
    rw [e]
    by_cases z : a = k
    · rw [if_pos z, valV_pos z]
      exact ⟨fun d' q => (by cases q; exact ⟨_, rfl, h⟩), fun q => (by cases q)⟩
    · rw [if_neg z, valV_neg z]
      exact ih
theorem RTs.noK {k : Key} : ∀ {xs : List (D × D)} {kvs : List (List Key × V)}, RTs C g B H xs kvs → dLookK xs k = none
  | _, _, .nil => rfl
  | _, _, .cons (k := a) h r => by
    unfold dLookK
    rw [List.find?_cons_of_neg (by cases k <;> simp [keyEqK])]
    exact RTs.noK (k := k) r
theorem RKs.noT {k : List Key} : ∀ {xs : List (D × D)} {kvs : List (Key × V)}, RKs C g B H xs kvs → dLookT xs k = none
  | _, _, .nil => rfl
  | _, _, .cons (k := a) h r => by
    unfold dLookT
    rw [List.find?_cons_of_neg (by cases a <;> simp [keyEqT, kD])]
    exact RKs.noT (k := k) r
theorem rv_kD {k : Key} {v : V} (h : RV C g B H (kD k) v) : v = kV k := by
  cases k with
  | inl i => cases h; rfl
  | inr x => cases h; rfl
theorem rvs_kD : ∀ {ks : List Key} {vs : List V}, RVs C g B H (ks.map kD) vs → vs = ks.map kV
  | [], _, h => by cases h; rfl
  | k :: ks, _, h => by
    rw [List.map_cons] at h
    cases h with
    | cons h r => rw [rv_kD h, rvs_kD r, List.map_cons]
theorem kD_rvs (ks : List Key) : RVs C g B H (ks.map kD) (ks.map kV) := by
  induction ks with
  | nil => exact .nil
  | cons k ks ih => exact .cons (by cases k <;> constructor) ih
end
/-- the datum at a key -/
def dAt (xs : List (D × D)) (y : D) (o : Option D) : Prop := (∃ k, y = kD k ∧ dLookK xs k = o) ∨ ∃ k : List Key, y = .tup (k.map kD) ∧ dLookT xs k = o
section
variable {C : Cxt} {g : Gh} {B : Addr → Prop} {H : Hp}
theorem dAt_get {xs : List (D × D)} {y d : D} {v u : V} (h : dAt xs y (some d)) (rx : RV C g B H (.dic xs) v) (ry : RV C g B H y u) : ∃ a w, v = .ref a ∧ DGet H a u (some w) ∧ RV C g B H d w := by
  rcases h with ⟨k, rfl, e⟩ | ⟨k, rfl, e⟩
  · have eu := rv_kD ry
    subst eu
    cases rx with
    | dicK hk rk =>
      obtain ⟨w, hw, r⟩ := (rk.look (k := k)).1 d e
      exact ⟨_, w, rfl, .inl ⟨_, k, .inr ⟨_, hk⟩, rfl, hw.symm⟩, r⟩
    | dicT hk rk => rw [rk.noK] at e; cases e
  · cases ry with
    | tup hq rs =>
      have eu := rvs_kD rs
      subst eu
      cases rx with
      | dicK hk rk => rw [rk.noT] at e; cases e
      | dicT hk rk =>
        obtain ⟨w, hw, r⟩ := (rk.look (k := k)).1 d e
        exact ⟨_, w, rfl, .inr ⟨_, k, _, .inr ⟨_, hk⟩, rfl, hq, hw.symm⟩, r⟩
end
section
variable {E : XK} {X : Cx} {a b : Expr} {ma mb : MX} {pos : Pos}
/-- d[k], d a dict as data -/
def mDGet (ma mb : MX) : MX := fun env S Q E => ma env S (fun w1 S1 => mb env S1 (fun w2 S2 => ∃ xs y d, w1 = .d (.dic xs) ∧ w2 = .d y ∧ dAt xs y (some d) ∧ Q (.d d) S2) E) E
theorem me_dget (hu : X.A.units + 1 < cLine) (ha : ME E X a ma) (hb : ME E X b mb) (hs : NoSl b := by exact fun _ _ => rfl) : ME E X (.Subscript a b pos) (mDGet ma mb) := by
  refine ⟨PE.imp (pe_dget hu ha.pe hb.pe hs) fun σ H Q ⟨g, B0, ρ, env, S, R, N, q⟩ => ?_, fun env S Q Q' E E' h hx q => ha.mono _ _ _ _ _ _ (fun w S1 z => hb.mono _ _ _ _ _ _ (fun w2 S2 ⟨xs, y, d, a, b, c, y2⟩ => ⟨xs, y, d, a, b, c, h _ _ y2⟩) hx z) hx q⟩
  refine tM.go ha.mono R N q (fun _ z => z) fun w1 S1 q1 g1 ρ1 H1 v1 R1 e1 r1 => ?_
  refine tM.go hb.mono R1 (N.ext e1) q1 (fun x z => z.ext e1) fun w2 S2 ⟨xs, y, d, ew1, ew2, hd, q2⟩ g2 ρ2 H2 v2 R2 e2 r2 => ?_
  subst ew1 ew2
  obtain ⟨p, w, ep, hg, rw_⟩ := dAt_get hd (show RV _ _ _ _ (.dic xs) v1 from r1.ext e2) r2
  exact ⟨p, w, ep, hg, q2 _ _ _ _ R2 (e1.trans e2) rw_⟩
end
/-! ### the keys, in a walk -/
section
variable {C : Cxt} {g g' : Gh} {B0 B' : Addr → Prop} {ρ ρ' : List Addr} {S S' : Sto} {H H' : Hp} {a : Addr} {o : Obj}
theorem RKs.len : ∀ {xs : List (D × D)} {kvs : List (Key × V)} {B : Addr → Prop}, RKs C g B H xs kvs → xs.length = kvs.length
  | _, _, _, .nil => rfl
  | _, _, _, .cons _ r => congrArg (· + 1) (RKs.len r)
theorem RTs.len : ∀ {xs : List (D × D)} {kvs : List (List Key × V)} {B : Addr → Prop}, RTs C g B H xs kvs → xs.length = kvs.length
  | _, _, _, .nil => rfl
  | _, _, _, .cons _ r => congrArg (· + 1) (RTs.len r)
theorem RKs.at_ : ∀ {xs : List (D × D)} {kvs : List (Key × V)} {B : Addr → Prop} {i : Nat} {p : D × D}, RKs C g B H xs kvs → xs[i]? = some p → ∃ k v, kvs[i]? = some (k, v) ∧ p.1 = kD k
  | _, _, _, _, _, .nil, e => by simp at e
  | _, _, _, 0, _, .cons h _, e => by simp at e; subst e; exact ⟨_, _, rfl, rfl⟩
  | _, _, _, i + 1, _, .cons _ r, e => by
    obtain ⟨k, v, h1, h2⟩ := RKs.at_ (i := i) r (by simpa using e)
    exact ⟨k, v, by simpa using h1, h2⟩
theorem RTs.at_ : ∀ {xs : List (D × D)} {kvs : List (List Key × V)} {B : Addr → Prop} {i : Nat} {p : D × D}, RTs C g B H xs kvs → xs[i]? = some p → ∃ k v, kvs[i]? = some (k, v) ∧ p.1 = .tup (k.map kD)
  | _, _, _, _, _, .nil, e => by simp at e
  | _, _, _, 0, _, .cons h _, e => by simp at e; subst e; exact ⟨_, _, rfl, rfl⟩
  | _, _, _, i + 1, _, .cons _ r, e => by
    obtain ⟨k, v, h1, h2⟩ := RTs.at_ (i := i) r (by simpa using e)
    exact ⟨k, v, by simpa using h1, h2⟩
theorem key_at {xs : List (D × D)} {i : Nat} {d : D} (h : (xs.map (·.1))[i]? = some d) : ∃ p, xs[i]? = some p ∧ p.1 = d := by
  rw [List.getElem?_map] at h
  obtain ⟨p, h1, h2⟩ := Option.map_eq_some_iff.mp h
  exact ⟨p, h1, h2⟩
theorem walks_dK {kvs : List (Key × V)} {xs : List (D × D)} (h : H a = some (.frz o (.dK kvs))) (r : RKs C g (Bad g B0 ρ S) H xs kvs) (gd : Sto → Prop) : Walks C g B0 ρ S H (Itk a o kvs) (xs.map (·.1)) gd := by
  refine ⟨fun g' B' ρ' S' H' _ R e _ => ⟨e.imm _ _ h trivial, by rw [List.length_map, r.len]; exact Nat.le_refl _⟩, fun i d g' B' ρ' S' H' _ n hi R e _ => ?_⟩
  obtain ⟨p, hp, rfl⟩ := key_at hi
  obtain ⟨k, v, h1, h2⟩ := r.at_ hp
  refine ⟨⟨e.imm _ _ h trivial, (List.getElem?_eq_some_iff.mp h1).1⟩, fun x H2 ⟨eH, k', v', h3, ex⟩ => ?_⟩
  subst eH ex
  rw [h1] at h3
  cases h3
  refine ⟨R, .refl, ?_⟩
  rw [h2]
  cases k <;> constructor
theorem walks_dT {kvs : List (List Key × V)} {xs : List (D × D)} (h : H a = some (.frz o (.dT kvs))) (r : RTs C g (Bad g B0 ρ S) H xs kvs) (gd : Sto → Prop) : Walks C g B0 ρ S H (Itkt a o kvs) (xs.map (·.1)) gd := by
  refine ⟨fun g' B' ρ' S' H' _ R e _ => ⟨e.imm _ _ h trivial, by rw [List.length_map, r.len]; exact Nat.le_refl _⟩, fun i d g' B' ρ' S' H' _ n hi R e _ => ?_⟩
  obtain ⟨p, hp, rfl⟩ := key_at hi
  obtain ⟨k, v, h1, h2⟩ := r.at_ hp
  refine ⟨⟨e.imm _ _ h trivial, (List.getElem?_eq_some_iff.mp h1).1⟩, fun x H2 ⟨eH, k', v', q, h3, ex, hq⟩ => ?_⟩
  subst eH ex
  rw [h1] at h3
  cases h3
  refine ⟨R, .refl, ?_⟩
  rw [h2]
  exact .tup hq (kD_rvs k)
end
/-- for k in d, d a dict as data -/
def mKeys (m : MX) : MI := fun env S Q E => m env S (fun w S1 => ∃ xs : List (D × D), w = .d (.dic xs) ∧ Q (xs.map (·.1)) (fun _ => True) S1) E
theorem mi_keys {E : XK} {X : Cx} {tg e : Expr} {m : MX} (he : ME E X e m) : MIJ E X tg e (mKeys m) := by
  refine ⟨PI.imp (pi_keys he.pe) fun σ H R' ⟨g, B0, ρ, env, S, R, N, q⟩ => ?_, fun env S Q Q' E E' h hx q => he.mono _ _ _ _ _ _ (fun w S1 ⟨xs, a, b⟩ => ⟨xs, a, h _ _ _ b⟩) hx q⟩
  refine tM.go he.mono R N q (fun _ z => z) fun w S1 ⟨xs, ew, q1⟩ g1 ρ1 H1 v1 R1 e1 r1 => ?_
  subst ew
  cases (show RV _ _ _ _ (.dic xs) v1 from r1) with
  | dicK hk rk => exact ⟨_, _, rfl, .inl ⟨_, hk, q1 g1 ρ1 H1 _ R1 e1 (walks_dK (C := ctx X) hk rk _)⟩⟩
  | dicT hk rk => exact ⟨_, _, rfl, .inr ⟨_, hk, q1 g1 ρ1 H1 _ R1 e1 (walks_dT (C := ctx X) hk rk _)⟩⟩
/-! ### len -/
def sizeD : D → Option Nat
  | .dic xs => some xs.length
  | .lst xs => some xs.length
  | .tup xs => some xs.length
  | _ => none
theorem cr_lenDic {X : Cx} : CallR X (.builtin "len") (fun xs H Q => ∃ p n, xs = [V.ref p] ∧ ((∃ kvs : List (Key × V), Rd H p (.dK kvs) ∧ kvs.length = n) ∨ ∃ kvs : List (List Key × V), Rd H p (.dT kvs) ∧ kvs.length = n) ∧ Q (.int (n : Nat)) H) := by
  intro pins s σ H xs us Q I r h
  obtain ⟨p, n, rfl, hp, q⟩ := h
  obtain ⟨u, rfl, ru⟩ := vals1 r
  cases ru
  rcases hp with ⟨kvs, hp, rfl⟩ | ⟨kvs, hp, rfl⟩
  · exact d_len I hp fun t s' I' => ⟨.int kvs.length, H, I', ⟨t, rfl⟩, q⟩
  · obtain ⟨z, hd, ys, rel, dd⟩ := dt_rd I.hok hp
    have hl : kvs.length = ys.length := Paired.length rel
    refine call_len_dictH hd dd (by rw [← hl]; rw [sizeLine_eq] at z; omega) ?_
    rw [← hl]
    exact ⟨.int ((kvs.length : Nat) : Int), H, I.tok _, ⟨_, rfl⟩, q⟩
theorem b_lenDic {X : Cx} : CallD X (.builtin "len") (c1 fun d => ∃ xs, d = .dic xs) (f1 fun d => .int ((sizeD d).getD 0 : Nat)) := callD1 cr_lenDic fun g B0 ρ S H d v Q R rv ⟨xs, e⟩ k => by
  subst e
  have rv := rv.toRV fun _ => by simp
  cases rv with
  | dicK hk rk => exact ⟨_, xs.length, rfl, .inl ⟨_, .inr ⟨_, hk⟩, rk.len.symm⟩, k _ _ R Ext.refl (.int _)⟩
  | dicT hk rk => exact ⟨_, xs.length, rfl, .inr ⟨_, .inr ⟨_, hk⟩, rk.len.symm⟩, k _ _ R Ext.refl (.int _)⟩
/-! ### sorted -/
def keysD : D → List D
  | .dic kvs => kvs.map (·.1)
  | d => seqD d
def fSrtX (d : D) : D := match tupsD (keysD d) with
  | some nss => .lst ((srtL nss).map tupI)
  | none => fSrt d
def cSrtX (d : D) : Prop := (tupsD (keysD d) = none ∧ cSrt d) ∨ (∃ nss n, (isSeq d = true ∨ ((∃ kvs, d = .dic kvs) ∧ nss ≠ [])) ∧ tupsD (keysD d) = some nss ∧ 1 ≤ n ∧ ∀ ns ∈ nss, ns.length = n)
section
variable {C : Cxt} {g : Gh} {B : Addr → Prop} {H : Hp}
theorem keys_ints : ∀ (k : List Key) (ns : List Int), k.map kD = ns.map D.int → k = ns.map Sum.inl
  | [], [], _ => rfl
  | [], _ :: _, h => by cases h
  | _ :: _, [], h => by cases h
  | a :: k, n :: ns, h => by
    rw [List.map_cons, List.map_cons] at h
    injection h with h1 h2
    rw [keys_ints k ns h2, List.map_cons]
    congr 1
    cases a with
    | inl i => cases h1; rfl
    | inr x => cases h1
theorem RTs.ints : ∀ {xs : List (D × D)} {kvs : List (List Key × V)} {nss : List (List Int)}, RTs C g B H xs kvs → xs.map (·.1) = nss.map tupI → kvs.map (·.1) = nss.map fun ns => ns.map Sum.inl
  | _, _, [], .nil, _ => rfl
  | _, _, _ :: _, .nil, e => by cases e
  | _, _, [], .cons _ _, e => by cases e
  | _, _, ns :: nss, .cons (k := k) h r, e => by
    rw [List.map_cons, List.map_cons] at e
    injection e with e1 e2
    rw [List.map_cons, List.map_cons, RTs.ints r e2]
    congr 1
    have e3 : D.tup (k.map kD) = tupI ns := e1
    unfold tupI at e3
    injection e3 with e3
    exact keys_ints k ns e3
theorem tups_RVs : ∀ {nss : List (List Int)} {ys : List V}, Paired (fun ns y => ∃ t, y = V.ref t ∧ H t = some (.tup (ns.map V.int))) nss ys → RVs C g B H (nss.map tupI) ys
  | _, _, .nil => .nil
  | _, _, .cons ⟨t, e, h⟩ r => by
    subst e
    exact .cons (.tup h (RVs.ints _)) (tups_RVs r)
theorem RVs.tups : ∀ {nss : List (List Int)} {vs : List V}, RVs C g B H (nss.map tupI) vs → Paired (fun ns y => ∃ t, y = V.ref t ∧ H t = some (.tup (ns.map V.int))) nss vs
  | [], _, h => by cases h; exact .nil
  | ns :: nss, _, h => by
    rw [List.map_cons] at h
    cases h with
    | cons h r =>
      refine .cons ?_ (RVs.tups r)
      unfold tupI at h
      cases h with
      | tup hq rs =>
        have := RVs.intsV rs
        subst this
        exact ⟨_, rfl, hq⟩
end
open Classical in
noncomputable def kV2 (H : Hp) (x : V) : List Int := if h : ∃ ns : List Int, ∃ t, x = .ref t ∧ H t = some (.tup (ns.map V.int)) then Classical.choose h else []
theorem kV2_of {H : Hp} {t : Addr} {ns : List Int} (e : H t = some (.tup (ns.map V.int))) : kV2 H (.ref t) = ns := by
  have hp : ∃ ns : List Int, ∃ t', V.ref t = .ref t' ∧ H t' = some (.tup (ns.map V.int)) := ⟨ns, t, rfl, e⟩
  unfold kV2
  rw [dif_pos hp]
  obtain ⟨t', e1, e2⟩ := Classical.choose_spec hp
  cases e1
  rw [e] at e2
  injection e2 with e2
  injection e2 with e2
  exact (ints_injV e2).symm
theorem cr_srtX {X : Cx} (hc : X.calm = true) : CallR X (.builtin "sorted") (fun vs H Q => (rSrtI X.K vs H Q ∨ rSrtQ X.K vs H Q) ∨ (rSrtT X.K vs H Q ∨ rSrtD X.K vs H Q)) := fun pinned st σ H vs us Q I r h =>
  h.elim (cr_srt pinned st σ H vs us Q I r) fun h => h.elim (cr_srtT pinned st σ H vs us Q I r) (cr_srtD hc pinned st σ H vs us Q I r)
theorem b_sortedX {X : Cx} (hc : X.calm = true) : CallD X (.builtin "sorted") (c1 cSrtX) (f1 fSrtX) := callD1 (cr_srtX hc) fun g B0 ρ S H d v Q R rv hd k => by
  rcases hd with ⟨ht, hcs⟩ | ⟨nss, n, hq, ht, hn, hall⟩
  · have ef : fSrtX d = fSrt d := by unfold fSrtX; rw [ht]
    rw [ef] at k
    obtain ⟨hq, hc2⟩ := hcs
    obtain ⟨a, vs, e, sq, rs⟩ := rv.seq hq
    subst e
    refine .inl ?_
    cases hi : intsD (seqD d) with
    | some ns =>
      have ev := rs.intsD hi
      subst ev
      refine .inl ⟨a, ns, rfl, sq, fun out p h1 h2 hp => ?_⟩
      obtain ⟨R2, e2, nb⟩ := R.new (o := .lst (out.map V.int)) hp
      have := k _ (.ref p) R2 e2
      unfold fSrt at this
      rw [hi] at this
      rw [srtI_eq h1 h2] at *
      exact this (.lst (.inl ⟨upd_same, nb⟩) (RVs.ints _))
    | none =>
      rw [hi] at hc2
      cases hp2 : pairsD (seqD d) with
      | none =>
        rw [hp2] at hc2
        rcases hc2 with z | z <;> cases z
      | some ps =>
        have rs2 := rs
        rw [pairsD_eq hp2] at rs2
        refine .inr ⟨a, ps, vs, rfl, sq, rs2.pairs, fun qs ys p h1 h2 h3 hp => ?_⟩
        obtain ⟨R2, e2, nb⟩ := R.new (o := .lst ys) hp
        have := k _ (.ref p) R2 e2
        unfold fSrt at this
        rw [hi, hp2] at this
        have eq := srtP_eq h1 h2
        subst eq
        exact this (.lst (.inl ⟨upd_same, nb⟩) ((pairs_RVs h3).mono e2.up))
  · have ef : fSrtX d = .lst ((srtL nss).map tupI) := by unfold fSrtX; rw [ht]
    rw [ef] at k
    refine .inr ?_
    have fin : ∀ (out : List (List Int)) (ys : List V) (p : Addr), out.Perm nss → out.Pairwise (fun x y => lexL y x = false) → Paired (fun ns y => ∃ t, y = V.ref t ∧ H t = some (.tup (ns.map V.int))) out ys → H p = none → Q (.ref p) (upd H p (.lst ys)) := fun out ys p h1 h2 h3 hp => by
      obtain ⟨R2, e2, nb⟩ := R.new (o := .lst ys) hp
      have := k _ (.ref p) R2 e2
      have eq := srtL_eq h1 h2
      subst eq
      exact this (.lst (.inl ⟨upd_same, nb⟩) (RVs.mono e2.up (tups_RVs h3)))
    rcases hq with hq | ⟨⟨kvs, rfl⟩, ne⟩
    · obtain ⟨a, vs, e, sq, rs⟩ := rv.seq hq
      subst e
      have ek : keysD d = seqD d := by
        cases d <;> first | rfl | cases hq
      rw [ek] at ht
      have rs2 := rs
      rw [tupsD_eq ht] at rs2
      have tp := rs2.tups
      have each : ∀ {nss : List (List Int)} {vs : List V}, Paired (fun ns y => ∃ t, y = V.ref t ∧ H t = some (.tup (ns.map V.int))) nss vs → vs.map (kV2 H) = nss ∧ ∀ x ∈ vs, ∃ t, x = V.ref t ∧ H t = some (.tup ((kV2 H x).map V.int)) ∧ kV2 H x ∈ nss := by
        intro nss vs p
        induction p with
        | nil => exact ⟨rfl, fun _ z => nomatch z⟩
        | cons h _ ih =>
          obtain ⟨t, e, ht⟩ := h
          subst e
          refine ⟨by rw [List.map_cons, kV2_of ht, ih.1], fun x hx => ?_⟩
          rcases List.mem_cons.mp hx with rfl | hx
          · exact ⟨t, rfl, by rw [kV2_of ht]; exact ht, by rw [kV2_of ht]; exact List.mem_cons_self⟩
          · obtain ⟨t', e', h', m⟩ := ih.2 x hx
            exact ⟨t', e', h', List.mem_cons_of_mem _ m⟩
      refine .inl ⟨a, vs, kV2 H, n, rfl, hn, sq, fun x hx => ?_, fun ys p h1 h2 hp => ?_⟩
      · obtain ⟨t, e, h, m⟩ := (each tp).2 x hx
        exact ⟨⟨t, e, .inl (.inl h)⟩, hall _ m⟩
      · have pm := h2.perm.map (kV2 H)
        rw [(each tp).1] at pm
        refine fin (ys.map (kV2 H)) ys p pm (List.pairwise_map.mpr h1) ?_ hp
        have mem : ∀ y ∈ ys, ∃ t, y = V.ref t ∧ H t = some (.tup ((kV2 H y).map V.int)) := fun y hy => let ⟨t, e, h, _⟩ := (each tp).2 y (h2.perm.mem_iff.mp hy); ⟨t, e, h⟩
        clear h1 h2 pm
        induction ys with
        | nil => exact .nil
        | cons y ys ih => exact .cons (mem y List.mem_cons_self) (ih fun z hz => mem z (List.mem_cons_of_mem _ hz))
    · have rv := rv.toRV fun _ => by simp
      cases rv with
      | dicT hk rk =>
        exact .inr ⟨_, _, nss, n, rfl, hn, .inr ⟨_, hk⟩, rk.ints (tupsD_eq ht), hall, fun out ys p h1 h2 h3 hp => fin out ys p h1 h2 h3 hp⟩
      | dicK hk rk =>
        have e0 := tupsD_eq ht
        cases rk with
        | nil =>
          cases nss with
          | nil => exact absurd rfl ne
          | cons _ _ => cases e0
        | @cons k0 _ _ _ _ h r =>
          cases nss with
          | nil => cases e0
          | cons ns nss =>
            have e1 : kD k0 = tupI ns := by
              have := congrArg (·[0]?) e0
              simpa [keysD] using this
            cases k0 <;> simp [kD, tupI] at e1
end RW
/-! RwDict2: dict(pairs), the keys tuples. -/
namespace RW
open PySem PySem.Spec PyProof.Rows L2
variable [Tbl]
/-- x is the pair of the key's tuple and the value -/
def PairK (H : Hp) (kv : List Key × V) (x : V) : Prop := ∃ t kb, x = V.ref t ∧ H t = some (.tup [.ref kb, kv.2]) ∧ H kb = some (.tup (kv.1.map kV))
def rDictT (K : PySem.W.Frag) : List V → Hp → VK → Prop := fun vs H Q => ∃ (a : Addr) (xs : List V) (kvs : List (List Key × V)), vs = [V.ref a] ∧ SqL K H a xs ∧ Paired (PairK H) kvs xs ∧ (kvs.map (·.1)).Nodup ∧ ∀ p, H p = none → Q (.ref p) (upd H p (.dT kvs))
theorem stored_nodup {κ : Type} [DecidableEq κ] : ∀ (ps acc : List (κ × Addr × Value)), ((acc ++ ps).map (·.1)).Nodup → storedAllH acc ps = acc ++ ps
  | [], acc, _ => by show acc = _; rw [List.append_nil]
  | p :: ps, acc, nd => by
    have e1 : atKey acc p.1 = none := by
      unfold atKey
      rw [Option.map_eq_none_iff, List.find?_eq_none]
      intro x hx hp
      have hp := of_decide_eq_true hp
      rw [List.map_append, List.map_cons, List.nodup_append] at nd
      exact nd.2.2 _ (List.mem_map.mpr ⟨x, hx, rfl⟩) _ List.mem_cons_self hp
    show storedAllH (storedH acc p.1 p.2.1 p.2.2) ps = _
    rw [storedH_new e1]
    have e2 : acc ++ [(p.1, p.2.1, p.2.2)] ++ ps = acc ++ p :: ps := by rw [List.append_assoc]; rfl
    rw [stored_nodup ps (acc ++ [(p.1, p.2.1, p.2.2)]) (by rw [e2]; exact nd), e2]
section
variable {X : Cx}
theorem dict_src {pins : List (Addr × Obj)} {σ : L2.St} {H : Hp} {s : Shared} (I : Inv X pins σ H s) : ∀ {kvs : List (List Key × V)} {xs : List V} {its : List Value}, Paired (PairK H) kvs xs → Vals xs its →
    ∃ (ps : List (List Key × Addr × Value)) (ts : List Addr), its = ts.map Value.ref ∧ Paired (fun (p : List Key × V) (q : List Key × Addr × Value) => p.1 = q.1 ∧ H q.2.1 = some (.tup (p.1.map kV)) ∧ RelV p.2 q.2.2) kvs ps ∧
      Paired (fun (t : Addr) (q : List Key × Addr × Value) => s.heap.IsTuple t #[.ref q.2.1, q.2.2]) ts ps
  | _, _, _, .nil, .nil => ⟨[], [], rfl, .nil, .nil⟩
  | kv :: _, _, _, .cons ⟨t, kb, e, h1, h2⟩ r, .cons rx rt => by
    obtain ⟨ps, ts, e1, p1, p2⟩ := dict_src I r rt
    subst e
    cases rx
    obtain ⟨_, its2, rv, ht⟩ := (show ObjOk X.prog X.w H s.heap t (.tup [.ref kb, kv.2]) from I.hok t _ h1)
    obtain ⟨u1, u2, rfl, r1, r2⟩ := vals2 rv
    cases (show u1 = Value.ref kb from r1)
    exact ⟨(kv.1, kb, u2) :: ps, t :: ts, by rw [e1] <;> rfl, .cons ⟨rfl, h2, r2⟩ p1, .cons ht p2⟩
theorem cr_dictT (hc : X.calm = true) (hu : X.A.units + 4 < cLine) : CallR X (.type "dict") (rDictT X.K) := by
  intro pins s σ H vs us Q I r h
  obtain ⟨a, xs, kvs, rfl, hs, pr, nd, q⟩ := h
  obtain ⟨u, rfl, ru⟩ := vals1 r
  cases ru
  obtain ⟨its, rv, pl, hz⟩ := I.list hs
  obtain ⟨ps, ts, ei, p1, p2⟩ := dict_src I pr rv
  subst ei
  have l1 : kvs.length = ps.length := Paired.len p1
  have l2 : ts.length = ps.length := Paired.len p2
  have l3 : xs.length = ts.length := by have := rv.length; rwa [List.length_map] at this
  have keyg : ∀ {kvs : List (List Key × V)} {ps : List (List Key × Addr × Value)}, Paired (fun (p : List Key × V) (q : List Key × Addr × Value) => p.1 = q.1 ∧ H q.2.1 = some (.tup (p.1.map kV)) ∧ RelV p.2 q.2.2) kvs ps → kvs.map (·.1) = ps.map (·.1) := by
    intro kvs ps p
    induction p with
    | nil => rfl
    | cons h _ ih => rw [List.map_cons, List.map_cons, ih, h.1]
  have keys : kvs.map (·.1) = ps.map (·.1) := keyg p1
  have items : PairItems s.heap (ts.map Value.ref).toArray (fun j => ts.getD j 0) (ps.map fun p => (Value.ref p.2.1, p.2.2)) := by
    refine ⟨by simp [l2], fun j k v e => ?_⟩
    rw [List.getElem?_map] at e
    obtain ⟨p, hp, e2⟩ := Option.map_eq_some_iff.mp e
    cases e2
    have hj := (List.getElem?_eq_some_iff.mp hp).1
    have ht : ts[j]? = some ts[j] := List.getElem?_eq_getElem (by omega)
    obtain ⟨p', hp', h⟩ := Paired.get p2 ht
    rw [hp] at hp'
    cases hp'
    have eg : ts.getD j 0 = ts[j] := by rw [List.getD_eq_getElem?_getD, ht] <;> rfl
    show (ts.map Value.ref).toArray[j]? = some (Value.ref (ts.getD j 0)) ∧ PairAt s.heap (ts.getD j 0) _ _
    rw [eg]
    exact ⟨by simp [ht], .inl h⟩
  refine call_dict_pairsH (knd := tupleKind (mixKind X.prog X.w)) (ps := ps) (PairArg.list a (ts.map Value.ref).toArray (fun j => ts.getD j 0) (ps.map fun p => (Value.ref p.2.1, p.2.2))) (I.ok.hd hc) (by show X.A.units + 1 + 1 < cLine; omega) ⟨pl, items⟩ ⟨by rw [List.length_map], fun i key v e => ?_⟩ (fun h' hk x hx => ?_) (by rw [List.length_map]; omega) fun h' tk hd' hk => ?_
  · have e : (ps.map fun p => (Value.ref p.2.1, p.2.2))[i]? = some (key, v) := e
    rw [List.getElem?_map] at e
    obtain ⟨p, hp, e2⟩ := Option.map_eq_some_iff.mp e
    cases e2
    exact ⟨p.1, p.2.1, hp, rfl⟩
  · have at_ : ∀ {kvs : List (List Key × V)} {ps : List (List Key × Addr × Value)}, Paired (fun (p : List Key × V) (q : List Key × Addr × Value) => p.1 = q.1 ∧ H q.2.1 = some (.tup (p.1.map kV)) ∧ RelV p.2 q.2.2) kvs ps → ∀ x ∈ ps, H x.2.1 = some (.tup (x.1.map kV)) := by
      intro kvs ps p
      induction p with
      | nil => intro x hx; cases hx
      | cons h _ ih =>
        intro x hx
        rcases List.mem_cons.mp hx with rfl | hx
        · rw [← h.1]; exact h.2.1
        · exact ih x hx
    obtain ⟨o, items2, n, ho, r2⟩ := key_of (P := X.prog) (w := X.w) I.hok (at_ p1 x hx)
    exact ⟨o, items2, n, hk _ o (Nat.ne_of_lt (Heap.lt_size ho)) (by simp) ho, r2⟩
  · rw [stored_nodup ps [] (by rw [List.nil_append, ← keys]; exact nd), List.nil_append] at hd'
    obtain ⟨o, es, ep, ho, hx, hdt, he, _, hn⟩ := hd'
    have ne : (s.heap.objs.size == sysModules) = false := beq_eq_false_iff_ne.mpr (Nat.ne_of_gt I.big)
    have hf := I.hok.fresh (Nat.le_refl s.heap.objs.size)
    refine ⟨.ref s.heap.objs.size, _, I.laid (t' := tk) (o := .dT kvs) (fun b o e => hk b o (by simp) e) (Nat.le_refl _) ⟨by omega, ne, ps, ?_, o, es, ep, ho, hx, hdt, he, hn⟩, rfl, q _ hf⟩
    exact Paired.mapP p1 fun p z h => ⟨h.1, by rw [upd_ne (ne_of_none h.2.1 hf)]; exact h.2.1, h.2.2⟩
/-- dict(xs), a list of pairs, the keys tuples -/
def mDictT (m : MX) : MX := fun env S Q E => m env S (fun w S1 => ∃ kvs : List (List Key × D), rd S1 w = some (.lst (kvs.map fun p => .tup [.tup (p.1.map kD), p.2])) ∧ (kvs.map (·.1)).Nodup ∧ Q (.d (.dic (kvs.map fun p => (D.tup (p.1.map kD), p.2)))) S1) E
theorem pairs_src {C : Cxt} {g : Gh} {B : Addr → Prop} {H : Hp} : ∀ {kvs : List (List Key × D)} {vs : List V}, RVs C g B H (kvs.map fun p => .tup [.tup (p.1.map kD), p.2]) vs → ∃ us : List (List Key × V), Paired (PairK H) us vs ∧ us.map (·.1) = kvs.map (·.1) ∧ RTs C g B H (kvs.map fun p => (D.tup (p.1.map kD), p.2)) us
  | [], _, h => by cases h; exact ⟨[], .nil, rfl, .nil⟩
  | (k, d) :: kvs, _, h => by
    rw [List.map_cons] at h
    cases h with
    | cons h r =>
      obtain ⟨us, p1, p2, p3⟩ := pairs_src r
      cases h with
      | tup hq rs =>
        cases rs with
        | cons rk rs =>
          cases rs with
          | cons rv rs =>
            cases rs
            cases rk with
            | tup hk rks =>
              have := rvs_kD rks
              subst this
              exact ⟨(k, _) :: us, .cons ⟨_, _, rfl, hq, hk⟩ p1, by rw [List.map_cons, List.map_cons, p2], .cons rv p3⟩
theorem me_dictT {E : XK} {a : Expr} {ma : MX} {p pos : Pos} (hc : X.calm = true) (hu : X.A.units + 4 < cLine) (hm : X.mg "dict" = none) (ha : ME E X a ma) (hg : Gl X "dict" := by rfl)
    (he : starEach [a] X.env = (false, eval a X.env) :: starEach [] X.env := by rfl) (hpl : (backTo pos (starEach [] X.env)).any (·.1) = false := by rfl) : ME E X (.Call (.Name "dict" p) [a] [] pos) (mDictT ma) := by
  refine ⟨PE.imp (pe_lk (pe_callTy (cr_dictT hc hu) hg hm (by decide +kernel : bootBuiltins "dict" = some (.type "dict")) (pa_cons ha.pe pa_nil he) (by decide) (by decide) he hpl)) fun σ H Q ⟨g, B0, ρ, env, S, R, N, q⟩ => ?_,
    fun env S Q Q' E E' h hx q => ha.mono _ _ _ _ _ _ (fun w S' ⟨x, a, b, z⟩ => ⟨x, a, b, h _ _ z⟩) hx q⟩
  refine tM.go ha.mono R N q (fun _ z => z) fun w S1 ⟨kvs, hd, nd, q1⟩ g1 ρ1 H1 v1 R1 e1 r1 => ?_
  obtain ⟨b, vs, e, sq, rs⟩ := (R1.rd r1 hd).sqL
  subst e
  obtain ⟨us, p1, p2, p3⟩ := pairs_src rs
  refine ⟨b, vs, us, rfl, sq, p1, by rw [p2]; exact nd, fun p hp => .inr ⟨p, _, rfl, upd_same, trivial, fun od => ?_⟩⟩
  rw [upd_upd]
  obtain ⟨R2, e2, nb⟩ := R1.new (o := .frz od (.dT us)) hp
  exact q1 g1 ρ1 _ (.ref p) R2 (e1.trans e2) (RV.dicT upd_same (RTs.mono e2.up p3))
end
end RW
/-! RwMax: max, min of one list or tuple of ints. -/
namespace RW
open PySem PySem.Spec PyProof.Rows L2
variable [Tbl]
def maxL : List Int → Int
  | [] => 0
  | n :: ns => ns.foldl max n
def minL : List Int → Int
  | [] => 0
  | n :: ns => ns.foldl min n
theorem reads_ints {h : Heap} : ∀ {ns : List Int} {us : List Value}, Vals (ns.map V.int) us → ReadsAll h us (ns.map PyData.int) []
  | [], _, .nil => .nil
  | n :: ns, _, .cons ⟨t, e⟩ r => by
    subst e
    exact .cons (as := []) (.int n t) (reads_ints r)
theorem alike_ints (ns : List Int) : PySem.W.AlikeAll (ns.map PyData.int) := by
  refine ⟨fun x hx y hy => ?_, fun x hx => ?_⟩
  · obtain ⟨a, _, rfl⟩ := List.mem_map.mp hx
    obtain ⟨b, _, rfl⟩ := List.mem_map.mp hy
    simp only [PySem.W.alike]
  · obtain ⟨a, _, rfl⟩ := List.mem_map.mp hx
    exact fun z => nomatch z
theorem depth_ints : ∀ ns : List Int, PyData.depthAll (ns.map PyData.int) = 0
  | [] => by simp only [List.map_nil, PyData.depthAll]
  | n :: ns => by
    have ih := depth_ints ns
    simp only [List.map_cons, PyData.depthAll, PyData.depth, ih]
    decide
def rMM (K : PySem.W.Frag) (f : List Int → Int) : List V → Hp → VK → Prop := fun vs H Q => ∃ (a : Addr) (ns : List Int), vs = [V.ref a] ∧ (SqL K H a (ns.map V.int) ∨ SqT K H a (ns.map V.int)) ∧ ns ≠ [] ∧ Q (.int (f ns)) H
theorem reads_int {h : Heap} {v : Value} {i : Int} {bs : List Addr} (r : Reads h v (.int i) bs) : ∃ t, v = .int i t := by
  cases r with
  | int i t => exact ⟨t, rfl⟩
section
variable {X : Cx}
theorem al_ints (n : Int) (ns : List Int) : PySem.W.AlikeAll (.int n :: ns.map PyData.int) := by
  have al := alike_ints (n :: ns)
  rw [List.map_cons] at al
  exact al
theorem rd_ints {h : Heap} {n : Int} {ns : List Int} {us : Array Value} (rv : Vals ((n :: ns).map V.int) us.toList) : ReadsAll h us.toList (.int n :: ns.map PyData.int) [] := by
  have z := reads_ints (h := h) (ns := n :: ns) rv
  rw [List.map_cons] at z
  exact z
theorem room_ints {u : Nat} (n : Int) (ns : List Int) (hu : u + 64 < cLine) : u + 1 + PyData.depthAll (.int n :: ns.map PyData.int) < cLine := by
  have dp := depth_ints (n :: ns)
  rw [List.map_cons] at dp
  rw [dp]
  exact Nat.lt_of_le_of_lt (by omega) hu
theorem max_fin {pins s σ H n ns} {Q : VK} (I : Inv X pins σ H s) (q : Q (.int (maxL (n :: ns))) H) (v : Value) (h' : Heap) (tk : Nat) (bs : List Addr) (rd : Reads h' v (PySem.W.maxD (.int n) (ns.map PyData.int)) bs) (hk : ∀ b o, s.heap.get? b = some o → h'.get? b = some o) : ∃ w H', Inv X pins σ H' { s with heap := h', toks := tk } ∧ RelV w v ∧ Q w H' := by
  rw [PySem.W.maxD_ints] at rd
  obtain ⟨t, rfl⟩ := reads_int rd
  exact ⟨.int (maxL (n :: ns)), H, I.kept hk, ⟨t, rfl⟩, q⟩
theorem cr_maxT (hc : X.calm = true) (hu : X.A.units + 64 < cLine) : CallR X (.builtin "max") (rMM X.K maxL) := by
  intro pins s σ H vs us Q I r h
  obtain ⟨a, ns, rfl, hs, hne, q⟩ := h
  rw [Vals.ref1 r]
  cases ns with
  | nil => exact absurd rfl hne
  | cons n ns =>
    rcases hs with hs | hs
    · obtain ⟨its, rv, hl, _⟩ := I.list hs
      exact PySem.W.max_list_data (I.ok.hd hc) hl.isList (rd_ints rv) (al_ints n ns) (room_ints n ns hu) fun i v h' tk bs _ rd hk => max_fin I q v h' tk bs rd hk
    · obtain ⟨its, rv, hl, _⟩ := I.tuple hs
      exact PySem.W.max_tuple_data (I.ok.hd hc) hl (rd_ints rv) (al_ints n ns) (room_ints n ns hu) fun i v h' tk bs _ rd hk => max_fin I q v h' tk bs rd hk
def cMM (d : D) : Prop := isSeq d = true ∧ ∃ ns, intsD (seqD d) = some ns ∧ ns ≠ []
theorem b_max1 (hc : X.calm = true) (hu : X.A.units + 64 < cLine) : CallD X (.builtin "max") (c1 cMM) (f1 fun d => .int (maxL ((intsD (seqD d)).getD []))) := callD1 (cr_maxT hc hu) fun g B0 ρ S H d v Q R rv ⟨hq, ns, hi, hne⟩ k => by
  obtain ⟨a, vs, e, sq, rs⟩ := rv.seq hq
  have ev := rs.intsD hi
  subst ev
  have := k H _ R Ext.refl (.int _)
  rw [hi] at this
  exact ⟨a, ns, by rw [e], sq, hne, this⟩
end
end RW
/-! RwEnd: the law called from outside, its one table of code objects empty. -/
namespace RW
open PySem PySem.Spec PyProof.Rows L2
abbrev tab0 : Obj := { cls := .none, data := .fields #[] }
abbrev lstO (vs : List Value) : Obj := { cls := .type "list", data := .seq vs.toArray }
/-- what is tracked when the law is called: the empty table, and the script if it is not of the written part -/
def scrH (K : PySem.W.Frag) (Pt a : Addr) (vs : List Value) (xs : List V) : Hp := fun b => if b = Pt then some (.tbl #[]) else if b = a ∧ (K.lookup a).isNone = true then some (.frz (lstO vs) (.lst xs)) else none
section
variable {K : PySem.W.Frag} {Pt a b : Addr} {vs : List Value} {xs : List V} {u : HO}
theorem scrH_tab : scrH K Pt a vs xs Pt = some (.tbl #[]) := if_pos rfl
theorem scrH_scr (n : a ≠ Pt) (h : K.lookup a = none) : scrH K Pt a vs xs a = some (.frz (lstO vs) (.lst xs)) := by
  unfold scrH
  rw [if_neg n, if_pos ⟨rfl, by rw [h]; rfl⟩]
theorem scrH_cases (h : scrH K Pt a vs xs b = some u) : (b = Pt ∧ u = .tbl #[]) ∨ (b = a ∧ K.lookup a = none ∧ u = .frz (lstO vs) (.lst xs)) := by
  unfold scrH at h
  split at h
  · rename_i z
    cases h
    exact .inl ⟨z, rfl⟩
  · split at h
    · rename_i z
      cases h
      exact .inr ⟨z.1, Option.isNone_iff_eq_none.mp z.2, rfl⟩
    · cases h
theorem scrH_none (h : ∀ u, scrH K Pt a vs xs b ≠ some u) : scrH K Pt a vs xs b = none := by
  cases e : scrH K Pt a vs xs b with
  | none => rfl
  | some u => exact absurd e (h u)
end
theorem end_call {P : Program} {w : World} {K : PySem.W.Frag} {mg mb : Str → Option Value} {k : Nat} {fa a c Pt : Addr} {fd : FuncData} {x : Str} {sp : Sp} {st : Shared} {vs : List Value} {ns : List Int}
    (kin : K.In st.heap) (gl : st.heap.Ns mainGlobals mg) (bl : st.heap.Ns builtinsNs mb) (bb : ∀ y : Str, y ≠ "__name__" → mb y = bootBuiltins y) (nolim : st.heap.NoLimit) (gens : st.gens = #[])
    (tab : st.heap.get? Pt = some tab0) (out : K.lookup Pt = none) (hd : PySem.W.codeHdIn K c Pt = true)
    (bm : ∃ (m : Addr) (om : Obj), mg "__builtins__" = some (.ref m) ∧ m ≠ builtinsNs ∧ st.heap.get? m = some om ∧ om.cls = .type "module" ∧ om.dict = some builtinsNs ∧ om.data = .plain)
    (scr : st.heap.get? a = some (lstO vs)) (it : IntsAre vs ns) (len : ns.length ≤ sizeLine) (room : Room k callerA)
    (F : ∀ base : Heap, K.In base → base.Ns mainGlobals mg → LamX.TabB base mg c Pt → FnG P w K mg base (L2.CX P w) k fa fd [x] sp) (bind : ∀ (s : Shared) (u : Value), BindsTo s fd ⟨[u], []⟩ [(x, u)])
    (ask : ∀ H : Hp, H Pt = some (.tbl #[]) → SqL K H a (ns.map V.int) → sp [.ref a] H (fun v _ => v = .bl true) fun _ _ _ => False) :
    codeAny (model P w) callerA (.call (.ref fa) ⟨[.ref a], []⟩) (fun r s' => r = .ok (.ret (.bool true)) ∧ OldK st.heap s'.heap ∧ s'.os = st.os ∧ AllBare s'.gens) st := by
  have rel := vals_ints it
  have sz := it.length
  have aP : a ≠ Pt := fun e => by
    rw [e, tab] at scr
    cases scr
  obtain ⟨H, hH⟩ : ∃ H, H = scrH K Pt a vs (ns.map V.int) := ⟨_, rfl⟩
  have cs : ∀ {b : Addr} {u : HO}, H b = some u → (b = Pt ∧ u = .tbl #[]) ∨ (b = a ∧ K.lookup a = none ∧ u = .frz (lstO vs) (.lst (ns.map V.int))) := fun e => scrH_cases (by rw [← hH]; exact e)
  have off : ∀ {b : Addr}, (∀ u, H b ≠ some u) → H b = none := fun {b} n => by
    cases e : H b with
    | none => rfl
    | some u => exact absurd e (n u)
  have plain : ∀ {b : Addr} {o : Obj}, st.heap.get? b = some o → o ≠ tab0 → o ≠ lstO vs → H b = none := fun {b o} e n1 n2 => off fun u z => by
    rcases cs z with ⟨rfl, _⟩ | ⟨rfl, _, _⟩
    · rw [tab] at e
      exact n1 (Option.some.inj e).symm
    · rw [scr] at e
      exact n2 (Option.some.inj e).symm
  have known : ∀ {b : Addr} {o : Obj}, K.lookup b = some o → H b = none := fun {b o} e => off fun u z => by
    rcases cs z with ⟨rfl, _⟩ | ⟨rfl, z2, _⟩
    · rw [out] at e
      cases e
    · rw [z2] at e
      cases e
  have kb : K.In (hidT st.heap H) := fun b o e => hidT_get (kin b o e) (known e)
  have nsUp : ∀ {b : Addr} {m : Str → Option Value}, st.heap.Ns b m → (hidT st.heap H).Ns b m := fun {b m} ⟨o, es, ep, e, d, r⟩ =>
    ⟨o, es, ep, hidT_get e (plain e (fun z => by rw [z] at d; cases d) fun z => by rw [z] at d; cases d), d, r⟩
  have nG : ∀ {b : Addr} {o : Obj}, st.heap.get? b = some o → (∀ es ep, o.data ≠ .dict es ep) → mainGlobals ≠ b := fun {b o} e n z => by
    obtain ⟨og, es, ep, eg, dg, _⟩ := gl
    rw [z, e] at eg
    cases eg
    exact n _ _ dg
  have TB : LamX.TabB (hidT st.heap H) mg c Pt := by
    obtain ⟨m, om, b1, b2, b3, b4, b5, b6⟩ := bm
    have mP : m ≠ Pt := fun z => by
      rw [z, tab] at b3
      cases b3
      cases b6
    exact ⟨PySem.W.codeHd_of_K kb hd, ⟨m, om, b1, b2, (nG b3 fun es ep z => by rw [b6] at z; cases z).symm, mP, hidT_get b3 (plain b3 (fun z => by rw [z] at b6; cases b6) fun z => by rw [z] at b6; cases b6), b4, b5, b6⟩, nG tab fun es ep z => by cases z⟩
  have md : L2.Mod K mg (hidT st.heap H) := by
    obtain ⟨mc, l1, l2⟩ := nolim
    exact ⟨kb, nsUp gl, ⟨mb, nsUp bl, bb⟩, ⟨mc, nsUp l1, l2⟩⟩
  have okH : HOk P w H st.heap := fun b u z => by
    rcases cs z with ⟨rfl, rfl⟩ | ⟨rfl, _, rfl⟩
    · exact tab
    · exact ⟨scr, by rw [List.length_map]; exact len, vs, _, rel, scr⟩
  have sq : SqL K H a (ns.map V.int) := by
    cases hk : K.lookup a with
    | none => exact .inl (.inr ⟨lstO vs, by rw [hH]; exact scrH_scr aP hk⟩)
    | some o =>
      have e := kin a o hk
      rw [scr] at e
      cases e
      exact .inr ⟨_, vs.toArray, _, hk, rfl, rfl, rfl, by rw [List.size_toArray, sz]; exact len, by simpa using rel⟩
  have env : Env0 P w K mg (hidT st.heap H) callerA [] st H := ⟨rfl, md, fun b o e => of_hidT e, Nat.le_of_eq (hidT_size _ _), trivial, fun b z => absurd (show b ∈ ([] : List Addr) from z) (by simp), okH, .of_eq gens⟩
  refine codeAny_mono ((F _ kb (nsUp gl) TB).run callerA [] st H ⟨[.ref a], []⟩ [.ref a] [.ref a] _ _ room rfl env (bind st (.ref a)) (.cons rfl .nil) (ask H (by rw [hH]; exact scrH_tab) sq)) fun r s' h => ?_
  match r, h with
  | .error e, h =>
    obtain ⟨_, _, _, _, _, _, _, _, _, _, _, _, z⟩ := h
    exact z.elim
  | .ok .next, h => exact h.elim
  | .ok .brk, h => exact h.elim
  | .ok .cont, h => exact h.elim
  | .ok (.ret u), ⟨v, H', os, bare, un, ok', rv, q⟩ =>
    obtain rfl : v = V.bl true := q
    obtain rfl : u = Value.bool true := rv
    have notF : ∀ b, b ∉ frs ([] : List PySem.Env) := fun b z => absurd (show b ∈ ([] : List Addr) from z) (by simp)
    have stays : ∀ {b : Addr} {o : Obj}, b ≠ Pt → st.heap.get? b = some o → s'.heap.get? b = some o := fun {b o} n e => by
      cases z : H b with
      | none => exact un.keep b o e z (notF b) (by simp)
      | some u =>
        rcases cs z with ⟨z1, _⟩ | ⟨_, _, z2⟩
        · exact absurd z1 n
        · rw [z2] at z
          obtain ⟨e2, _⟩ := ok' b _ (un.frzs b _ _ z)
          obtain ⟨e1, _⟩ := okH b _ z
          rw [e] at e1
          cases e1
          exact e2
    have tH : H Pt = some (.tbl #[]) := by rw [hH]; exact scrH_tab
    obtain ⟨more, hm⟩ := un.tbls Pt #[] tH
    have grown : s'.heap.get? Pt = some { cls := .none, data := .fields (#[] ++ more) } := ok' Pt _ hm
    rw [Array.empty_append] at grown
    refine ⟨rfl, ⟨fun b o e => ?_, fun b o e => ?_⟩, os, bare⟩
    · by_cases hb : b = Pt
      · subst hb
        rw [tab] at e
        cases e
        exact .inr (.inl ⟨((PySem.W.codeHd_of_K kin hd).tab tab).isCodeTable, rfl, #[], more, rfl, by rw [Array.empty_append]; exact grown⟩)
      · exact .inl (stays hb e)
    · by_cases hb : b = Pt
      · subst hb
        exact ⟨_, grown⟩
      · exact ⟨o, stays hb e⟩
/-- what the written part must tell of the law, for the end -/
def LawIs (l : PySem.W.OpenLaw) (w : World) (n k : Nat) (x : Str) (mg : Str → Option Value) (fa : Addr) (h : Heap) : Prop :=
  ∃ (K : PySem.W.Frag) (fd : FuncData) (c Pt : Addr) (sp : Sp), K.In h ∧ h.get? Pt = some tab0 ∧ K.lookup Pt = none ∧ PySem.W.codeHdIn K c Pt = true ∧ (∀ (s : Shared) (u : Value), BindsTo s fd ⟨[u], []⟩ [(x, u)]) ∧
    (∀ (H : Hp) (a : Addr) (ns : List Int), ns.length ≤ n → H Pt = some (.tbl #[]) → SqL K H a (ns.map V.int) → sp [.ref a] H (fun v _ => v = .bl true) fun _ _ _ => False) ∧
    ∀ base : Heap, K.In base → base.Ns mainGlobals mg → LamX.TabB base mg c Pt → FnG l.prog w K mg base (L2.CX l.prog w) k fa fd [x] sp
theorem law_walk {l : PySem.W.OpenLaw} {n k : Nat} {q : Program} {loose : List Str} {XP : (Str → Option Value) → Heap → Prop} {YP : World → Heap → Prop} {d : DefRec} {x : Str} (most : l.most = some n) (small : n ≤ sizeLine) (nodf : d.params.defaults = []) (room : Room k callerA)
    (F : ∀ (w : World) (mg : Str → Option Value) (fa : Addr) (h : Heap), YP w h → h.Ns mainGlobals mg → mg d.name = some (.ref fa) → LawIs l w n k x mg fa h) : PySem.W.WalkO q loose XP YP l.row.toRowW d [] (fun f us => PySem.call f us) := by
  refine Att.attach_callB most nodf fun w s0 st mg mb fa o pm cd doc a vs ns G Y _ _ _ hm scr it hl _ hg => ?_
  obtain ⟨K, fd, c, Pt, sp, kin, tab, out, hd, bind, ask, hF⟩ := F w mg fa _ Y G.T.g hm
  exact end_call kin G.T.g G.T.b G.T.builtins G.T.nolimit hg tab out hd G.T.bmain scr it (Nat.le_trans hl small) room hF bind fun H => ask H a ns hl
end RW
/-! RwHead: the facts of the written part, by names. -/
namespace RW
open PySem PySem.Spec PyProof.Rows L2
theorem fun_of {K : PySem.W.Frag} {x q : Str} {st : Stmt} {f : Addr} {fd : FuncData} (h : FunD K x q (defArgs st) (defBody st) (defScope st) [] [] f fd) : Fun K x q st f fd := by
  obtain ⟨oc, od, dV, kV, doc, pm, an, cdv, ct, osl, e, lk, hc, hd, _⟩ := h.ex
  rcases hd with ⟨_, rfl⟩ | ⟨n, _⟩
  · exact ⟨⟨oc, od, kV, doc, pm, an, cdv, ct, osl, e, lk, hc⟩, h.kp⟩
  · exact absurd rfl n
/-- the def x of the text st, and its global -/
def dDef (x : Str) (st : Stmt) : He.DefD := ⟨(x, none), x, x, defArgs st, defBody st, defScope st, [], []⟩
/-! errors with an __init__ of their own -/
abbrev ExB : List Value := [.type "ValueError", .type "Exception", .type "BaseException", .type "object"]
def ownB (K : PySem.W.Frag) (C : Addr) : Bool := match K.lookup C with
  | some ⟨.type t, _, .cls cd, sl⟩ => decide (t = "type") && (cd.hasDict && (!cd.hasDel && (match cd.mro, sl.toList with
    | .ref D :: bm, [_, _, _, _, some (.builtin n), _] => decide (D = C) && (decide (n = "ValueError.__new__") && PySem.HandSPX.refsVE bm)
    | _, _ => false)))
  | _ => false
theorem ownB_ok {K : PySem.W.Frag} {C : Addr} (h : ownB K C = true) : ∃ nm q N bs bm sn sub ab col dd k0 k1 k2 k3 k5, K.lookup C = some (excClassObj nm q C N bs bm true sn sub ab col dd k0 k1 k2 k3 k5 "ValueError.__new__") ∧ PySem.HandSPX.refsVE bm = true := by
  unfold ownB at h
  cases e : K.lookup C with
  | none =>
    rw [e] at h
    cases h
  | some o =>
    obtain ⟨oc, od, dt, sl⟩ := o
    rw [e] at h
    cases oc with
    | type t =>
      cases dt with
      | cls cd =>
        obtain ⟨h1, h⟩ := He.ba h
        obtain ⟨h2, h⟩ := He.ba h
        obtain ⟨h3, h⟩ := He.ba h
        obtain ⟨a1, a2, a3, a4, a5, a6, a7, a8, a9, a10, a11⟩ := cd
        split at h
        · rename_i D bm k0 k1 k2 k3 n k5 e1 e2
          obtain ⟨h4, h⟩ := He.ba h
          obtain ⟨h5, h6⟩ := He.ba h
          have x1 := of_decide_eq_true h1
          have x4 := of_decide_eq_true h4
          have x5 := of_decide_eq_true h5
          subst x1 x4 x5
          have y2 : a6 = true := h2
          have y3 : a11 = false := by
            cases a11 with
            | false => rfl
            | true => cases h3
          have y4 : a3 = .ref D :: bm := e1
          have y5 : sl = #[k0, k1, k2, k3, some (.builtin "ValueError.__new__"), k5] := by
            rw [← Array.toArray_toList (xs := sl), e2]
          subst y2 y3 y4 y5
          exact ⟨_, _, _, _, _, _, _, _, _, _, _, _, _, _, _, rfl, h6⟩
        · cases h
      | _ => cases h
    | _ => cases dt <;> cases h
def iniAt (K : PySem.W.Frag) (c : Str) : Addr := He.ma K (He.ga K c) "__init__"
abbrev IniV : Type := Option (Str × Str × Arguments × FuncBody × Scope × Addr × Addr)
def iniV (K : PySem.W.Frag) (c : Str) : IniV := match K.lookup (iniAt K c) with
  | some ⟨_, _, .func fd, _⟩ => some (fd.name, fd.qualname, fd.params, fd.body, fd.scope, fd.globals, fd.builtins)
  | _ => none
/-- an error's class, its attribute, its __init__ -/
structure ErrD where
  name : Str
  fld : Str
  qual : Str
  st : Stmt
def ErrD.val (e : ErrD) : IniV := some ("__init__", e.qual, defArgs e.st, .stmts (defBody e.st), defScope e.st, mainGlobals, builtinsNs)
def noDfl (fd : FuncData) : Bool := match fd.defaults, fd.kwdefaults with
  | .none, .none => true
  | _, _ => false
theorem noDfl_ok {fd : FuncData} (h : noDfl fd = true) : fd.defaults = .none ∧ fd.kwdefaults = .none := by
  unfold noDfl at h
  split at h
  · rename_i e1 e2
    exact ⟨e1, e2⟩
  · cases h
def fileB (K : PySem.W.Frag) (file q : Str) (v : Value) : Bool := match v with
  | .ref cda => PySem.W.codeIn K (.ref cda) q && (match K.lookup cda with
    | some ⟨_, _, .fields vs, _⟩ => (match (vs[2]? : Option Value) with
      | some (.str f _) => file == f
      | _ => false)
    | _ => false)
  | _ => false
def cellB (K : PySem.W.Frag) (C : Addr) (l : List (Str × Addr)) : Bool := match l with
  | [(x, cc)] => decide (x = "__class__") && (match K.lookup cc with
    | some ⟨_, _, .cell (some (.ref D)), _⟩ => decide (D = C)
    | _ => false)
  | _ => false
def iniOk (K : PySem.W.Frag) (file c : Str) : Bool := match K.lookup (iniAt K c) with
  | some ⟨_, _, .func fd, _⟩ => noDfl fd && (fileB K file fd.qualname fd.code && cellB K (He.ga K c) fd.closure)
  | _ => false
theorem fileB_ok {K : PySem.W.Frag} {file q : Str} {v : Value} (h : fileB K file q v = true) : ∃ cda, v = .ref cda ∧ PySem.W.codeIn K (.ref cda) q = true ∧ ∃ ccl cdd vs ccs f tf, K.lookup cda = some ⟨ccl, cdd, .fields vs, ccs⟩ ∧ vs[2]? = some (.str f tf) ∧ (file == f) = true := by
  cases v with
  | ref cda =>
    obtain ⟨h1, h2⟩ := He.ba (show (PySem.W.codeIn K (.ref cda) q && (match K.lookup cda with
      | some ⟨_, _, .fields vs, _⟩ => (match (vs[2]? : Option Value) with
        | some (.str f _) => file == f
        | _ => false)
      | _ => false)) = true from h)
    refine ⟨cda, rfl, h1, ?_⟩
    split at h2
    · rename_i e
      split at h2
      · rename_i e2
        exact ⟨_, _, _, _, _, _, e, e2, h2⟩
      · cases h2
    · cases h2
  | _ => cases h
theorem cellB_ok {K : PySem.W.Frag} {C : Addr} {l : List (Str × Addr)} (h : cellB K C l = true) : ∃ cc, l = [(("__class__" : Str), cc)] ∧ ∃ cl cld csl, K.lookup cc = some ⟨cl, cld, .cell (some (.ref C)), csl⟩ := by
  unfold cellB at h
  split at h
  · obtain ⟨h1, h2⟩ := He.ba h
    have e1 := of_decide_eq_true h1
    subst e1
    split at h2
    · rename_i e
      have e2 := of_decide_eq_true h2
      subst e2
      exact ⟨_, rfl, _, _, _, e⟩
    · cases h2
  · cases h
theorem ini_ok {K : PySem.W.Frag} {file : Str} {e : ErrD} (hv : iniV K e.name = e.val) (h : iniOk K file e.name = true) :
    ∃ (oc : Value) (od : Option Addr) (doc pm : Value) (an : Option Addr) (ct : Value) (osl : Array (Option Value)) (cda cc : Addr), K.lookup (iniAt K e.name) = some ⟨oc, od, .func (PySem.W.ksFn "__init__" e.qual (defArgs e.st) (defBody e.st) (defScope e.st) .none .none doc pm an (.ref cda) ct cc), osl⟩ ∧ PySem.W.codeIn K (.ref cda) e.qual = true ∧
      (∃ ccl cdd vs ccs f tf, K.lookup cda = some ⟨ccl, cdd, .fields vs, ccs⟩ ∧ vs[2]? = some (.str f tf) ∧ (file == f) = true) ∧ ∃ cl cld csl, K.lookup cc = some ⟨cl, cld, .cell (some (.ref (He.ga K e.name))), csl⟩ := by
  unfold iniOk at h
  unfold iniV at hv
  cases q : K.lookup (iniAt K e.name) with
  | none =>
    rw [q] at h
    cases h
  | some o =>
    obtain ⟨oc, od, dt, osl⟩ := o
    rw [q] at h hv
    cases dt with
    | func fd =>
      obtain ⟨n1, n2, n3, n4, n5, n6, n7, n8, n9, n10, n11, n12, n13, n14, n15⟩ := fd
      have e2 : (some (n1, n2, n3, n4, n5, n6, n15) : IniV) = some (("__init__" : Str), e.qual, defArgs e.st, .stmts (defBody e.st), defScope e.st, mainGlobals, builtinsNs) := hv
      simp only [Option.some.injEq, Prod.mk.injEq] at e2
      obtain ⟨h1, h2, h3, h4, h5, h6, h7⟩ := e2
      subst h1 h2 h3 h4 h5 h6 h7
      obtain ⟨c1, c⟩ := He.ba h
      obtain ⟨c2, c3⟩ := He.ba c
      obtain ⟨cda, e1, k1, k2⟩ := fileB_ok c2
      obtain ⟨cc, e3, k3⟩ := cellB_ok c3
      have e1' : n13 = .ref cda := e1
      have e3' : n7 = [(("__class__" : Str), cc)] := e3
      subst e1' e3'
      obtain ⟨d1, d2⟩ := noDfl_ok c1
      have d1' : n8 = .none := d1
      have d2' : n9 = .none := d2
      subst d1' d2'
      exact ⟨oc, od, n10, n11, n12, n14, osl, cda, cc, rfl, k1, k2, k3⟩
    | _ => cases h
def okD {α : Type} [DecidableEq α] (a b : Option α) : Bool := decide (a = b)
theorem okD_ok {α : Type} [DecidableEq α] {a b : Option α} (h : okD a b = true) : a = b := of_decide_eq_true h
/-- all that is asked of an error's class, but its __init__'s text -/
def errL (K : PySem.W.Frag) (file c fld : Str) : List Bool := [ownB K (He.ga K c), He.eqO (PySem.W.nsIn K mainGlobals c) (some (some (.ref (He.ga K c)))),
  He.eqO (PySem.W.findIn K (.ref (He.ga K c)) "__setattr__") (some (some (.builtin "object.__setattr__"))), He.eqO (PySem.W.findIn K (.ref (He.ga K c)) "__getattribute__") (some (some (.builtin "BaseException.__getattribute__"))),
  He.eqO (PySem.W.findIn K (.ref (He.ga K c)) "__getattr__") (some none), He.eqO (PySem.W.findIn K (.ref (He.ga K c)) fld) (some none), He.eqO (PySem.W.findIn K (.ref (He.ga K c)) "__init__") (some (some (.ref (iniAt K c)))),
  okD (PySem.W.typeIn K (.ref (iniAt K c))) (some (.type "function")), PySem.W.keepIn K (.ref (He.ga K c)), okD (PySem.W.subIn K (.ref (He.ga K c)) (.type "BaseException")) (some true), okD (PySem.W.subIn K (.ref (He.ga K c)) (.type "ValueError")) (some true),
  okD (PySem.W.mroIn K (He.ga K c) (.ref (He.ga K c))) (some true), okD (PySem.W.typeIn K (.ref (He.ga K c))) (some (.type "type")), PySem.W.hasDictIn K (He.ga K c), He.eqO (PySem.W.nsIn K cStatics "thirdparty.any") (some none),
  He.eqO (PySem.W.ks_superIn K (He.ga K c) (He.ga K c) "__init__") (some (some (.builtin "ValueError.__init__"))), PySem.W.excInitIn K (He.ga K c) ExB "ValueError.__new__", iniOk K file c]
def errB (K : PySem.W.Frag) (file c fld : Str) : Bool := (errL K file c fld).all _root_.id
theorem all_at {l : List Bool} (h : l.all _root_.id = true) (i : Nat) {b : Bool} (e : l[i]? = some b) : b = true := List.all_eq_true.mp h b (List.mem_of_getElem? e)
theorem errTxt_of {P : Program} {K : PySem.W.Frag} {h : Heap} {mg : Str → Option Value} {e : ErrD} {msg : Str} {j : Nat} {p1 p2 a1 a2 a3 a4 a5 a6 q1 q2 q3 q4 : Pos} {ns : List (Str × NameKind)} (X : K.In h) (G : h.Ns mainGlobals mg) (hv : iniV K e.name = e.val) (hb : errB K P.main.file e.name e.fld = true) (nsup : mg "super" = none) (top : (P.main.scope.names.lookup ("super" : Str)).isSome = false)
    (eA : defArgs e.st = iniA e.fld p1 p2) (eB : defBody e.st = iniB e.fld msg j a1 a2 a3 a4 a5 a6 q1 q2 q3 q4) (eS : defScope e.st = iniS ns) (n1 : ns.lookup ("super" : Str) = some .globalImplicit) (n2 : ns.lookup ("__class__" : Str) = some .free) (n3 : ns.lookup ("self" : Str) = some .local) (n4 : ns.lookup e.fld = some .local) (n5 : ∀ x ∈ ns, x.2 ≠ .cell)
    (bd : ∀ (doc pm : Value) (an : Option Addr) (ct : Value) (cda cc : Addr) (s : Shared) (u v : Value), BindsTo s (PySem.W.ksFn "__init__" e.qual (iniA e.fld p1 p2) (iniB e.fld msg j a1 a2 a3 a4 a5 a6 q1 q2 q3 q4) (iniS ns) .none .none doc pm an (.ref cda) ct cc) ⟨[u, v], []⟩ [("self", u), (e.fld, v)])
    (bk : ∀ (doc pm : Value) (an : Option Addr) (ct : Value) (cda cc : Addr) (s : Shared) (u v : Value), BindsTo s (PySem.W.ksFn "__init__" e.qual (iniA e.fld p1 p2) (iniB e.fld msg j a1 a2 a3 a4 a5 a6 q1 q2 q3 q4) (iniS ns) .none .none doc pm an (.ref cda) ct cc) ⟨[u], [(e.fld, v)]⟩ [("self", u), (e.fld, v)])
    (ev : ∀ env : PySem.Env, ∃ pl : Sem Bool, eval (.Call (.Attribute (.Call (.Name "super" a1) [] [] a2) "__init__" a3) [.Constant (.str msg) j a4] [] a5) env = (do
      let ov ← attributeBase (.Call (.Name "super" a1) [] [] a2) "__init__" env (eval (.Call (.Name "super" a1) [] [] a2) env)
      standAt a3.atName
      let (f, first) ← holding [ov] (getMethod ov "__init__" pl)
      callWith a5 f first (backTo a5 (starEach [.Constant (.str msg) j a4] env)) []))
    (f1 : (e.fld == ("__debug__" : Str)) = false) (f2 : (e.fld == ("self" : Str)) = false) : ErrTxt P K mg e.name (He.ga K e.name) (iniAt K e.name) e.fld msg := by
  obtain ⟨oc, od, doc, pm, an, ct, osl, cda, cc, lk, k1, k2, k3⟩ := ini_ok hv (all_at hb 17 rfl)
  rw [eA, eB, eS] at lk
  exact { gC := PySem.W.mg_of X G (He.eqO_ok (all_at hb 1 rfl)), cls := ownB_ok (all_at hb 0 rfl), sa := He.eqO_ok (all_at hb 2 rfl), ga := He.eqO_ok (all_at hb 3 rfl), gg := He.eqO_ok (all_at hb 4 rfl), noN := He.eqO_ok (all_at hb 5 rfl), iC := He.eqO_ok (all_at hb 6 rfl), tC := okD_ok (all_at hb 7 rfl), kC := all_at hb 8 rfl, exC := okD_ok (all_at hb 9 rfl), veC := okD_ok (all_at hb 10 rfl), mrC := (okD_ok (all_at hb 11 rfl)), tyC := okD_ok (all_at hb 12 rfl), hdC := all_at hb 13 rfl, opq := He.eqO_ok (all_at hb 14 rfl), sup := He.eqO_ok (all_at hb 15 rfl), q := all_at hb 16 rfl, nsup := nsup, top := top, fn := ⟨oc, od, doc, pm, an, ct, .none, osl, e.qual, ns, cda, cc, j, p1, p2, a1, a2, a3, a4, a5, a6, q1, q2, q3, q4, lk, k1, k2, k3, n1, n2, n3, n4, n5, fun s u v => bd _ _ _ _ _ _ s u v, fun s u v => bk _ _ _ _ _ _ s u v, ev⟩, fld1 := f1, fld2 := f2 }
/-! isinstance -/
def excL (K : PySem.W.Frag) (D : Addr) : List Bool := [He.eqO (PySem.W.findIn K (.ref D) "__getattribute__") (some (some (.builtin "BaseException.__getattribute__"))), He.eqO (PySem.W.findIn K (.ref D) "__getattr__") (some none), okD (PySem.W.subIn K (.ref D) (.type "BaseException")) (some true), PySem.W.hasDictIn K D,
  He.eqO (PySem.W.findIn K (.ref D) "__class__") (some (some (.builtin "object.__class__"))), He.eqO (PySem.W.specialIn K (.builtin "object.__class__") "__get__") (some (some (.builtin "getset_descriptor.__get__"))), okD (PySem.W.takesIn K (.builtin "object.__class__")) (some true), okD (PySem.W.mroIn K D (.type "object")) (some true)]
theorem excC_of {K : PySem.W.Frag} {D : Addr} (h : (excL K D).all _root_.id = true) : L2.ExcC K D := ⟨He.eqO_ok (all_at h 0 rfl), He.eqO_ok (all_at h 1 rfl), okD_ok (all_at h 2 rfl), all_at h 3 rfl, He.eqO_ok (all_at h 4 rfl), He.eqO_ok (all_at h 5 rfl), okD_ok (all_at h 6 rfl), okD_ok (all_at h 7 rfl)⟩
def isB (K : PySem.W.Frag) (es : List Str) (top n : Str) : Bool := He.eqO (PySem.W.nsIn K mainGlobals n) (some (some (.ref (He.ga K n)))) && ((baseTs.all fun T => okD (PySem.W.kitOne K (.type T) (.ref (He.ga K n))) (some false)) &&
  es.all fun c => He.eqO (PySem.W.nsIn K mainGlobals c) (some (some (.ref (He.ga K c)))) && ((excL K (He.ga K c)).all _root_.id && okD (PySem.W.kitOne K (.ref (He.ga K c)) (.ref (He.ga K n))) (some (c == n || n == top))))
theorem isC_of {K : PySem.W.Frag} {h : Heap} {mg : Str → Option Value} {es : List Str} {top n : Str} (X : K.In h) (G : h.Ns mainGlobals mg) (hb : isB K es top n = true) : IsC K mg es top n (He.ga K n) := by
  obtain ⟨h1, h2⟩ := He.ba hb
  obtain ⟨h2, h3⟩ := He.ba h2
  refine ⟨PySem.W.mg_of X G (He.eqO_ok h1), fun T hT => okD_ok (List.all_eq_true.mp h2 T hT), fun c hc Ca e => ?_⟩
  obtain ⟨k1, k2⟩ := He.ba (List.all_eq_true.mp h3 c hc)
  obtain ⟨k2, k3⟩ := He.ba k2
  have e2 := (PySem.W.mg_of X G (He.eqO_ok k1)).symm.trans e
  cases e2
  exact ⟨excC_of k2, okD_ok k3⟩
/-! what is looked at behind the top -/
def frK (n : Nat) (g : Addr → Option Obj) : PySem.W.Frag := He.frT g (sysModules :: cStatics :: He.asD g n)
def lawC (K : PySem.W.Frag) : Addr := He.codeOf K ("law", none)
def lawP (K : PySem.W.Frag) : Addr := He.tabOf K (lawC K)
def tabOk (g : Addr → Option Obj) (K : PySem.W.Frag) : Bool := PySem.W.codeHdIn K (lawC K) (lawP K) && (match g (lawP K) with
  | some o => He.emptyTab o
  | none => false)
abbrev Look : Type := He.AlD × Bool × List IniV
def look (n : Nat) (fa : List He.Fa) (fn : List He.DefD) (ex : PySem.W.Frag → Bool) (es : List ErrD) (g : Addr → Option Obj) : Look := (He.obsD fa fn (frK n g), ex (frK n g) && tabOk g (frK n g), es.map fun e => iniV (frK n g) e.name)
def seen (fn : List He.DefD) (es : List ErrD) : Look := (He.valD fn, true, es.map ErrD.val)
structure Told (fa : List He.Fa) (fn : List He.DefD) (ex : PySem.W.Frag → Bool) (es : List ErrD) (h : Heap) (K : PySem.W.Frag) : Prop where
  d : He.SaysD fa fn K
  more : ex K = true
  hd : PySem.W.codeHdIn K (lawC K) (lawP K) = true
  out : K.lookup (lawP K) = none
  tab : h.get? (lawP K) = some tab0
  errs : es.map (fun e => iniV K e.name) = es.map ErrD.val
theorem told_of {n : Nat} {fa : List He.Fa} {fn : List He.DefD} {ex : PySem.W.Frag → Bool} {es : List ErrD} {h : Heap} (e : look n fa fn ex es h.get? = seen fn es) : Told fa fn ex es h (frK n h.get?) := by
  obtain ⟨e1, e2⟩ := Prod.mk.inj e
  obtain ⟨e2, e3⟩ := Prod.mk.inj e2
  obtain ⟨h1, h2⟩ := He.ba e2
  obtain ⟨h2, h3⟩ := He.ba h2
  split at h3
  · rename_i o q
    exact ⟨e1, h1, h2, He.frT_none q h3, by rw [q, He.emptyTab_eq h3], e3⟩
  · cases h3
def hookR (n : Nat) (fa : List He.Fa) (fn : List He.DefD) (ex : PySem.W.Frag → Bool) (es : List ErrD) : PySem.W.Hook where
  α := Look
  obs := fun s => look n fa fn ex es s.heap.get?
  val := fun _ => seen fn es
  says := fun _ h => ∃ K : PySem.W.Frag, K.In h ∧ Told fa fn ex es h K
  of := fun _ _ e => ⟨_, He.frT_in, told_of e⟩
  keeps := fun _ _ _ ⟨K, hK, c⟩ k => ⟨K, PySem.W.Frag.In.keeps hK k, ⟨c.d, c.more, c.hd, c.out, k _ _ c.tab, c.errs⟩⟩
theorem look_eq {n : Nat} {fa : List He.Fa} {fn : List He.DefD} {ex : PySem.W.Frag → Bool} {es : List ErrD} {g : Addr → Option Obj} {s : Shared} (h : ∀ a, g a = s.heap.get? a) : look n fa fn ex es g = (hookR n fa fn ex es).obs s := by
  have e : g = s.heap.get? := funext h
  rw [e]
  rfl
theorem Told.err {fa : List He.Fa} {fn : List He.DefD} {ex : PySem.W.Frag → Bool} {es : List ErrD} {h : Heap} {K : PySem.W.Frag} (c : Told fa fn ex es h K) (i : Nat) {e : ErrD} (q : es[i]? = some e) : iniV K e.name = e.val := by
  have z : (es.map fun e => iniV K e.name)[i]? = (es.map ErrD.val)[i]? := by rw [c.errs]
  rw [List.getElem?_map, List.getElem?_map, q] at z
  exact Option.some.inj z
/-- the law's def: its code object stands in the written part -/
theorem law_def {K : PySem.W.Frag} {st : Stmt} {f : Addr} {fd : FuncData} (F : Fun K "law" "law" st f fd) (hf : He.fAd K ("law", none) = f) : ∃ (oc kV doc pm ct : Value) (od an : Option Addr) (osl : Array (Option Value)),
    fd = PySem.W.fnOf "law" "law" (defArgs st) (defBody st) (defScope st) .none kV doc pm an (.ref (lawC K)) ct ∧ K.lookup f = some ⟨oc, od, .func fd, osl⟩ ∧ PySem.W.codeIn K (.ref (lawC K)) "law" = true := by
  obtain ⟨oc, od, kV, doc, pm, an, cdv, ct, osl, e, lk, hc⟩ := F.ex
  obtain ⟨c, rfl⟩ := He.codeIn_ref hc
  subst e
  have z : lawC K = c := He.codeOf_eq (p := ("law", none)) (by rw [hf]; exact lk) rfl
  rw [z]
  exact ⟨oc, kV, doc, pm, ct, od, an, osl, rfl, lk, hc⟩
end RW
/-! RwDisp: dict displays as data; isinstance of an error with a built-in class. -/
namespace RW
open PySem PySem.Spec PyProof.Rows L2
variable [Tbl]
section
variable {E : XK} {X : Cx}
def strVs (ks : List Str) (vs : List V) : List (V × V) := List.zipWith (fun k v => (V.str k, v)) ks vs
structure MDJ (E : XK) (X : Cx) (pos : Pos) (keys : List (Option Expr)) (vals : List Expr) (ks : List Str) (t : MA) : Prop where
  ex : ∃ trs, PPs X pos keys vals trs ∧ ∀ σ H Q, tMA (ctx X) E t σ H (fun vs H' => Q (strVs ks vs) H') → tPairs trs σ H Q
  mono : MonoA t
  all : keys.all (·.isSome) = true
  l1 : keys.length = vals.length
  l2 : keys.length = ks.length
  len : ∀ env S Q E, t env S Q E → t env S (fun ws S' => ws.length = ks.length ∧ Q ws S') E
theorem mdj_nil {pos : Pos} : MDJ E X pos [] [] [] aNil :=
  ⟨⟨_, pps_nil, fun σ H Q ⟨g, B0, ρ, env, S, R, N, q⟩ => q g ρ H [] R Ext.refl .nil⟩, (ma_nil (E := E) (X := X)).mono, rfl, rfl, rfl, fun _ _ _ _ h => ⟨rfl, h⟩⟩
theorem mdj_cons {pos : Pos} {keys : List (Option Expr)} {vals : List Expr} {ks : List Str} {t : MA} {k : Str} {j : Nat} {p : Pos} {e : Expr} {m : MX} (he : ME E X e m) (h : MDJ E X pos keys vals ks t) :
    MDJ E X pos (some (.Constant (.str k) j p) :: keys) (e :: vals) (k :: ks) (aCons m t) := by
  obtain ⟨trs, pp, go⟩ := h.ex
  refine ⟨⟨_, pps_cons pe_str he.pe pp, fun σ H Q ⟨g, B0, ρ, env, S, R, N, q⟩ => ?_⟩, fun env S Q Q' E E' k hx q => he.mono _ _ _ _ _ _ (fun w S' z => h.mono _ _ _ _ _ _ (fun ws S2 y => k _ _ y) hx z) hx q, ?_, congrArg (· + 1) h.l1, congrArg (· + 1) h.l2,
    fun env S Q E q => he.mono _ _ _ _ _ _ (fun w S1 z => h.mono _ _ _ _ _ _ (fun ws S2 y => ⟨congrArg (· + 1) y.1, y.2⟩) (fun _ y => y) (h.len _ _ _ _ z)) (fun _ z => z) q⟩
  · refine tM.go he.mono R N q (fun _ z => z) fun w S1 q1 g1 ρ1 H1 v1 R1 e1 r1 => ?_
    refine go σ H1 _ ?_
    exact tMA.go h.mono R1 (N.ext e1) q1 (fun x z => z.ext e1) fun ws S2 q2 g2 ρ2 H2 vs R2 e2 r2 => q2 g2 ρ2 H2 (v1 :: vs) R2 (e1.trans e2) (.cons (r1.ext e2) r2)
  · rw [List.all_cons, h.all]; rfl
def dicD (ks : List Str) (xs : List D) : D := .dic (List.zipWith (fun k x => (D.str k, x)) ks xs)
def mDisp (ks : List Str) (t : MA) : MX := fun env S Q E => t env S (fun ws S1 => ∃ xs, datas ws = some xs ∧ Q (.d (dicD ks xs)) S1) E
abbrev sKs (ks : List Str) (vs : List V) : List (Key × V) := List.zipWith (fun k v => ((Sum.inr k : Key), v)) ks vs
theorem sKs_keys : ∀ {ks : List Str} {vs : List V}, ∀ p ∈ sKs ks vs, ∃ k ∈ ks, p.1 = Sum.inr k
  | [], _, p, h => by cases h
  | _ :: _, [], p, h => by cases h
  | k :: ks, v :: vs, p, h => by
    rcases List.mem_cons.mp h with e | h
    · subst e; exact ⟨k, List.mem_cons_self, rfl⟩
    · obtain ⟨k', a, b⟩ := sKs_keys p h
      exact ⟨k', List.mem_cons_of_mem _ a, b⟩
theorem valV_sKs {acc : List (Key × V)} {k : Str} (h : ∀ p ∈ acc, p.1 ≠ Sum.inr k) : valV acc (Sum.inr k : Key) = none := by
  induction acc with
  | nil => exact valV_nil
  | cons p r ih =>
    rw [valV_neg (h p List.mem_cons_self)]
    exact ih fun q hq => h q (List.mem_cons_of_mem _ hq)
theorem merge_sKs : ∀ (ks : List Str) (vs : List V) (acc : List (Key × V)), ks.Nodup → (∀ k ∈ ks, ∀ p ∈ acc, p.1 ≠ Sum.inr k) → mergeK acc (sKs ks vs) = acc ++ sKs ks vs
  | [], _, acc, _, _ => by show acc = acc ++ []; rw [List.append_nil]
  | _ :: _, [], acc, _, _ => by show acc = acc ++ []; rw [List.append_nil]
  | k :: ks, v :: vs, acc, nd, h => by
    show mergeK (putK acc (Sum.inr k) v) (sKs ks vs) = acc ++ ((Sum.inr k, v) :: sKs ks vs)
    rw [putK_new v (valV_sKs (h k List.mem_cons_self))]
    obtain ⟨n1, n2⟩ := List.nodup_cons.mp nd
    rw [merge_sKs ks vs _ n2 fun k' hk p hp => ?_, List.append_assoc]
    · rfl
    · rcases List.mem_append.mp hp with hp | hp
      · exact h k' (List.mem_cons_of_mem _ hk) p hp
      · rw [List.mem_singleton.mp hp]
        exact fun e => n1 (by cases e; exact hk)
theorem RVs.sKs {C : Cxt} {g : Gh} {B : Addr → Prop} {H : Hp} : ∀ {ks : List Str} {xs : List D} {vs : List V}, RVs C g B H xs vs → RKs C g B H (List.zipWith (fun k x => (D.str k, x)) ks xs) (RW.sKs ks vs)
  | [], _, _, _ => .nil
  | _ :: _, _, _, .nil => .nil
  | k :: ks, _, _, .cons h r => .cons (k := Sum.inr k) h (RVs.sKs r)
theorem strVs_kvs : ∀ (ks : List Str) (vs : List V), strVs ks vs = (sKs ks vs).map fun kv => (kV kv.1, kv.2)
  | [], _ => rfl
  | _ :: _, [] => rfl
  | k :: ks, v :: vs => congrArg _ (strVs_kvs ks vs)
theorem me_disp {pos : Pos} {keys : List (Option Expr)} {vals : List Expr} {ks : List Str} {t : MA} (h : MDJ E X pos keys vals ks t) (nd : ks.Nodup := by decide) (h15 : keys.length ≤ 15 := by decide) (h0 : keys ≠ [] := by simp) : ME E X (.Dict keys vals pos) (mDisp ks t) := by
  obtain ⟨trs, pp, go⟩ := h.ex
  refine ⟨PE.imp (pe_lk (pe_disp pp h.all h.l1 h0 h15)) fun σ H Q ⟨g, B0, ρ, env, S, R, N, q⟩ p hp => ?_, fun env S Q Q' E E' k hx q => h.mono _ _ _ _ _ _ (fun w S' ⟨xs, a, c⟩ => ⟨xs, a, k _ _ c⟩) hx q⟩
  obtain ⟨R0, no⟩ := R.guard (o := .dK []) hp
  have U : Up g (Bad g B0 ρ S) H g (Bad g (fun b => B0 b ∨ b = p) ρ S) (upd H p (.dK [])) := ⟨fun b u e _ => by rw [upd_ne (ne_of_none e hp)]; exact e, fun b u e n => ⟨by rw [upd_ne (ne_of_none e hp)]; exact e, fun z => by
    rcases z with (z | z) | z
    · exact n (.inl z)
    · exact ne_of_none e hp z
    · exact n (.inr z)⟩, .refl⟩
  have N0 : EnvR (ctx X) g (Bad g (fun b => B0 b ∨ b = p) ρ S) ρ (upd H p (.dK [])) env σ := ⟨N.1, fun i w hw => let ⟨v, a, b⟩ := N.2 i w hw; ⟨v, a, b.mono U ⟨[], by simp⟩⟩⟩
  refine go σ _ _ (tMA.go h.mono R0 N0 (h.len _ _ _ _ q) (fun x z => ?_) fun ws S1 ⟨hl, xs, hx, q1⟩ g1 ρ1 H1 vs R1 e1 r1 => ?_)
  · intro g' H' cls d R' x' rx
    refine z g' H' cls d (R'.dropB fun _ a => .inl a) ⟨fun b o a i => x'.imm b o (by rw [upd_ne (ne_of_none a hp)]; exact a) i, fun b o a n => x'.keep b o (by rw [upd_ne (ne_of_none a hp)]; exact a) n, fun b o a n => x'.own b o (by rw [upd_ne (ne_of_none a hp)]; exact a) n, x'.gh⟩ ?_
    exact rx.mono (Up.weak fun b a => a.elim (fun a => .inl (.inl a)) .inr)
  · have atp := e1.keep p _ upd_same no
    have np := e1.own p _ upd_same no
    refine ⟨atp, sKs ks vs, strVs_kvs ks vs, by
      have l1 := Paired.len r1
      have : (sKs ks vs).length ≤ ks.length := by rw [List.length_zipWith]; omega
      have l2 := h.l2
      omega, ?_⟩
    refine .inr ⟨p, _, rfl, upd_same, trivial, fun od => ?_⟩
    rw [merge_sKs ks vs [] nd (fun _ _ p hp => by cases hp), List.nil_append, upd_upd]
    obtain ⟨R2, U2⟩ := R1.writeB (p := p) (u := .frz od (.dK (sKs ks vs))) (.inr rfl) np atp (fun z => z)
    have E : Ext g B0 ρ S H g1 ρ1 S1 (upd H1 p (.frz od (.dK (sKs ks vs)))) := by
      refine ⟨fun b u a i => ?_, fun b u a n => ?_, fun b u a n => e1.own b u (by rw [upd_ne (ne_of_none a hp)]; exact a) n, e1.gh, e1.pre⟩
      · rw [upd_ne (ne_of_none a hp)]
        exact e1.imm b u (by rw [upd_ne (ne_of_none a hp)]; exact a) i
      · rw [upd_ne (ne_of_none a hp)]
        exact e1.keep b u (by rw [upd_ne (ne_of_none a hp)]; exact a) n
    exact q1 g1 ρ1 _ (.ref p) (R2.dropB fun _ z => .inl z) E (RV.dicK upd_same (RVs.sKs ((Paired.rws r1 hx).mono ⟨U2.imm, fun b o a n => ⟨(U2.keep b o a n).1, fun z => n (z.elim (fun z => .inl (.inl z)) .inr)⟩, .refl⟩)))
/-- {} as data -/
theorem me_dic0 {pos : Pos} : ME E X (.Dict [] [] pos) (mD (.dic [])) := by
  refine ⟨PE.imp (pe_lk pe_dnewK) fun σ H Q ⟨g, B0, ρ, env, S, R, N, q⟩ p hp => .inr ⟨p, _, rfl, upd_same, trivial, fun od => ?_⟩, fun _ _ _ _ _ _ h _ q => h _ _ q⟩
  rw [upd_upd]
  obtain ⟨R2, e2, nb⟩ := R.new (o := .frz od (.dK [])) hp
  exact q g ρ _ (.ref p) R2 e2 (RV.dicK upd_same .nil)
/-- isinstance(e, T), T a built-in class above all errors -/
structure IsV (K : PySem.W.Frag) (mg : Str → Option Value) (es : List Str) (T : String) : Prop where
  ex : ∀ c ∈ es, ∀ Ca, mg c = some (.ref Ca) → L2.ExcC K Ca ∧ PySem.W.kitOne K (.ref Ca) (.type T) = some true
theorem call_isV : CallR X (.builtin "isinstance") (fun xs H Q => ∃ (a Ca : Addr) (d : Option Addr) (T : String), xs = [.ref a, .ty T] ∧ H a = some (ExK Ca d a) ∧ L2.ExcC X.K Ca ∧ (∀ dd, d = some dd → ∃ fvs, H dd = some (.xd fvs)) ∧ PySem.W.kitOne X.K (.ref Ca) (.type T) = some true ∧ Q (.bl true) H) := by
  intro pins s σ H xs us Q I r h
  obtain ⟨a, Ca, d, T, rfl, ha, hE, hd, e, q⟩ := h
  obtain ⟨u1, u2, rfl, r1, r2⟩ := vals2 r
  cases (show u2 = Value.type T from r2)
  cases (show u1 = Value.ref a from r1)
  obtain ⟨oe, od, J, _⟩ := exk_inst I ha hd
  obtain ⟨cd, hc, _⟩ := PySem.W.any_some hE.hd
  exact PySem.W.kia_one (PySem.W.kitx_exc (by rw [hc]; rfl) hE.hg hE.hk hE.hs hE.ha hE.hn hE.ht hE.hm) I.kIn J e (fun z => nomatch z) fun tk => ⟨.bl true, H, I.tok tk, rfl, q⟩
def mIsV (es : List Str) (m : MX) : MX := fun env S Q E => m env S (fun w S1 => ∃ c fs, w = .d (.exc c fs) ∧ c ∈ es ∧ Q (.d (.bl true)) S1) E
theorem me_isV {es : List Str} {T : String} {a : Expr} {ma : MX} {p p2 pos : Pos} (hC : IsV X.K X.mg es T) (hm : X.mg "isinstance" = none) (hm2 : X.mg (Str.ofString T) = none) (hv : bootBuiltins (Str.ofString T) = some (.type T)) (ha : ME E X a ma)
    (hg : Gl X "isinstance" := by rfl) (hg2 : Gl X (Str.ofString T) := by rfl) (hn : (Str.ofString T) ≠ "__name__" := by decide) (hdb : ((Str.ofString T) == ("__debug__" : Str)) = false := by decide)
    (he : starEach [a, .Name (Str.ofString T) p2] X.env = (false, eval a X.env) :: starEach [.Name (Str.ofString T) p2] X.env := by rfl) (he2 : starEach [.Name (Str.ofString T) p2] X.env = (false, eval (.Name (Str.ofString T) p2) X.env) :: starEach [] X.env := by rfl)
    (hpl : (backTo pos (starEach [.Name (Str.ofString T) p2] X.env)).any (·.1) = false := by rfl) : ME E X (.Call (.Name "isinstance" p) [a, .Name (Str.ofString T) p2] [] pos) (mIsV es ma) := by
  refine ⟨PE.imp (pe_callB call_isV hg hm boot_isinstance (pa_cons ha.pe (pa_cons (me_ty hm2 hv hg2 hn hdb) pa_nil he2) he) (by decide) (by decide) he hpl) fun σ H Q ⟨g, B0, ρ, env, S, R, N, q⟩ => ?_,
    fun env S Q Q' E E' h hx q => ha.mono _ _ _ _ _ _ (fun w S' ⟨x, a, b, c, z⟩ => ⟨x, a, b, c, h _ _ z⟩) hx q⟩
  refine tM.go ha.mono R N q (fun _ z => z) fun w S1 ⟨c, fs, ew, hc, q1⟩ g1 ρ1 H1 v1 R1 e1 r1 => ?_
  subst ew
  cases (show RV _ _ _ _ (.exc c fs) v1 from r1) with
  | exc0 hm h nb => exact ⟨_, _, none, T, rfl, h, (hC.ex c hc _ hm).1, (fun _ z => nomatch z), (hC.ex c hc _ hm).2, q1 _ _ _ _ R1 e1 (RV.bl _)⟩
  | exc1 hm h nb hx rf => exact ⟨_, _, _, T, rfl, h, (hC.ex c hc _ hm).1, (fun dd z => by cases z; exact ⟨_, hx⟩), (hC.ex c hc _ hm).2, q1 _ _ _ _ R1 e1 (RV.bl _)⟩
end
end RW
namespace RW
open PySem PySem.Spec PyProof.Rows L2
def isVB (K : PySem.W.Frag) (es : List Str) (T : String) : Bool := es.all fun c => He.eqO (PySem.W.nsIn K mainGlobals c) (some (some (.ref (He.ga K c)))) && ((excL K (He.ga K c)).all _root_.id && okD (PySem.W.kitOne K (.ref (He.ga K c)) (.type T)) (some true))
theorem isV_of {K : PySem.W.Frag} {h : Heap} {mg : Str → Option Value} {es : List Str} {T : String} (X : K.In h) (G : h.Ns mainGlobals mg) (hb : isVB K es T = true) : IsV K mg es T := by
  refine ⟨fun c hc Ca e => ?_⟩
  obtain ⟨k1, k2⟩ := He.ba (List.all_eq_true.mp hb c hc)
  obtain ⟨k2, k3⟩ := He.ba k2
  have e2 := (PySem.W.mg_of X G (He.eqO_ok k1)).symm.trans e
  cases e2
  exact ⟨excC_of k2, okD_ok k3⟩
def sysB (K : PySem.W.Frag) : Bool := match K.lookup sysModules with
  | some o => decide (o.cls = .type "dict")
  | none => false
theorem sysD_of {K : PySem.W.Frag} (h : sysB K = true) : SysD K := by
  unfold sysB at h
  cases e : K.lookup sysModules with
  | none => rw [e] at h; cases h
  | some o => rw [e] at h; exact ⟨o, e, of_decide_eq_true h⟩
end RW
/-! RwPar: a, b = x, y with names that a comprehension reads, and lists of the store; rooms; the head's facts of own classes. -/
namespace RW
open PySem PySem.Spec PyProof.Rows L2
variable [Tbl]
def setAll : MEnv → List Nat → List W → MEnv
  | env, i :: is, w :: ws => setAll (env.set i (some w)) is ws
  | env, _, _ => env
structure MGW (X : Cx) (is : List Nat) (tgs : List Expr) : Prop where
  ex : ∃ t, PGs X tgs t ∧ ∀ g B0 ρ S H (env : MEnv) σ ws vs Q, EnvR (ctx X) g (Bad g B0 ρ S) ρ H env σ → Paired (RW (ctx X) g (Bad g B0 ρ S) ρ H) ws vs → ws.length = is.length →
    (∀ σ', EnvR (ctx X) g (Bad g B0 ρ S) ρ H (setAll env is ws) σ' → Q σ' H) → t vs σ H Q
section
variable {X : Cx}
theorem mgw_nil : MGW X [] [] := by
  refine ⟨_, pgs_nil, fun g B0 ρ S H env σ ws vs Q N r hl k => ?_⟩
  cases r with
  | nil => exact ⟨rfl, k σ N⟩
  | cons a b => cases hl
theorem mgw_cons {x : Str} {i : Nat} {is : List Nat} {es : List Expr} {pos : Pos} (h2 : MGW X is es) (hN : X.N.Nodup) (hi : X.N[i]? = some x := by rfl) (hx : Loc X.env.scope x := by first | exact Or.inl rfl | exact Or.inr rfl)
    (hf : X.fn x = true ∨ X.env.scope.names.lookup x = some .local := by first | exact .inl rfl | exact .inr rfl | assumption) (hs : (assignEach (.Name x pos :: es) X.env).map (·.2) = assign (.Name x pos) X.env :: (assignEach es X.env).map (·.2) := by rfl) : MGW X (i :: is) (.Name x pos :: es) := by
  obtain ⟨t2, p2, q2⟩ := h2.ex
  refine ⟨_, pgs_cons (pg_name (i := i) hN hi hx hf) p2 hs, fun g B0 ρ S H env σ ws vs Q N r hl k => ?_⟩
  cases r with
  | nil => cases hl
  | cons h t =>
    rename_i w v ws' vs'
    exact ⟨v, vs', rfl, q2 g B0 ρ S H _ _ ws' vs' Q (N.set i h) t (Nat.succ.inj hl) fun σ' N' => k σ' N'⟩
/-- x, y, .. = a, b, .. by a tuple -/
def sParW (is : List Nat) (t : MA) : MS := fun K env S => t env S (fun ws S' => ws.length = is.length ∧ K.nx (setAll env is ws) S') K.ex
theorem ms_parW {E : XK} {is : List Nat} {tgs es : List Expr} {t : MA} {k k2 : Nat} {pos pt pt2 : Pos} (hc : X.calm = true) (hg : MGW X is tgs) (ha : MAJ E X es t) (hn : is.length = (assignEach tgs X.env).length := by rfl) (hsz : is.length ≤ sizeLine := by decide) (hst : (assignEach tgs X.env).findIdx? (·.1) = none := by rfl) (ha2 : (assignEach [.Tuple tgs k pt] X.env).map (·.2) = [assign (.Tuple tgs k pt) X.env] := by rfl)
    (hw : swappedStores [.Tuple tgs k pt] (.Tuple es k2 pt2) X.env = pure none := by rfl) (hs : swapsWithSole [.Tuple tgs k pt] (.Tuple es k2 pt2) pos.line X.env = pure false := by rfl) : MSJ E X (.Assign [.Tuple tgs k pt] (.Tuple es k2 pt2) pos) (sParW is t) := by
  obtain ⟨tg, pg, go⟩ := hg.ex
  have PGt := pg_tup (k := k) (pos := pt) hc pg rfl hst
  refine ⟨⟨fun pins s σ H D I ⟨g, B0, ρ, env, S, R, N, q⟩ => ?_⟩, fun K K' env S k h => ha.mono _ _ _ _ _ _ (fun w S' ⟨a, z⟩ => ⟨a, k.nx _ _ z⟩) k.ex h⟩
  refine wpAny_Assign_stores (thn ((pe_tup ha.pa).run pins s σ H (fun v H1 => gTup X.K (assignEach tgs X.env).length tg v σ H1 D.nx) I ?_) fun u s1 ⟨v, H1, I1, r, q1⟩ => ?_) hs hw
  · refine tMA.go ha.mono R N q (fun _ z => z) fun ws S1 ⟨hl, q1⟩ g1 ρ1 H1 vs R1 e1 r1 => ?_
    refine ⟨?_, fun tp htp => ?_⟩
    · rw [← Paired.len r1, hl]
      exact hsz
    · obtain ⟨R2, e2, _⟩ := R1.new (o := .tup vs) htp
      refine ⟨tp, vs, rfl, .inl (.inl upd_same), by rw [← Paired.len r1, hl, hn], ?_⟩
      exact go g1 B0 ρ1 S1 _ env σ ws vs D.nx ((N.ext e1).ext e2) (Paired.mapP r1 fun _ _ q => q.ext e2) hl fun σ' N' => q1 g1 ρ1 _ σ' R2 (e1.trans e2) N'
  · rw [ha2]
    show wpAny _ _ (assignAll u [assign (.Tuple tgs k pt) X.env]) _ _ _
    have go2 := PGt.run pins s1 σ H1 v u D.nx I1 r q1
    unfold assignAll
    first
      | exact wpAny_mono go2 (fun _ s' ⟨σ', H', J, z⟩ => ⟨σ', H', J, z⟩) fun _ _ y => y
      | (refine wpAny_bind (wpAny_mono go2 (fun _ s' ⟨σ', H', J, z⟩ => ?_) fun _ _ y => y); unfold assignAll; exact wpAny_pure ⟨σ', H', J, z⟩)
end
/-! rooms -/
theorem un1 {k : Nat} {A : Around} (hr : Room k A) : A.units + 1 < cLine := Nat.lt_of_le_of_lt (by omega) hr.units
theorem un4 {k : Nat} {A : Around} (hr : Room k A) : A.units + 4 < cLine := Nat.lt_of_le_of_lt (by omega) hr.units
abbrev cDicO : D → Prop := fun d => ∃ xs, d = .dic xs
abbrev fLenO : D → D := fun d => .int ((sizeD d).getD 0 : Nat)
abbrev fMaxL : D → D := fun d => .int (maxL ((intsD (seqD d)).getD []))
end RW
namespace RW
open PySem PySem.Spec PyProof.Rows L2
/-! own classes in the head -/
def insL (K : PySem.W.Frag) (D : Addr) : List Bool := [PySem.W.plainGet K D Str.empty, PySem.W.hasDictIn K D, PySem.W.plainOver K D, He.eqO (PySem.W.findIn K (.ref D) "__setattr__") (some (some (.builtin "object.__setattr__"))),
  He.eqO (PySem.W.findIn K (.ref D) "__class__") (some (some (.builtin "object.__class__"))), He.eqO (PySem.W.specialIn K (.builtin "object.__class__") "__get__") (some (some (.builtin "getset_descriptor.__get__"))), okD (PySem.W.takesIn K (.builtin "object.__class__")) (some true), okD (PySem.W.mroIn K D (.type "object")) (some true)]
theorem insC_of {K : PySem.W.Frag} {D : Addr} (h : (insL K D).all _root_.id = true) : InsC K D := ⟨⟨all_at h 0 rfl, all_at h 1 rfl, all_at h 2 rfl, He.eqO_ok (all_at h 3 rfl)⟩, He.eqO_ok (all_at h 4 rfl), He.eqO_ok (all_at h 5 rfl), okD_ok (all_at h 6 rfl), okD_ok (all_at h 7 rfl)⟩
def ownIB (K : PySem.W.Frag) (cs : List Str) (n : Str) : Bool := He.eqO (PySem.W.nsIn K mainGlobals n) (some (some (.ref (He.ga K n)))) && ((baseTs.all fun T => okD (PySem.W.kitOne K (.type T) (.ref (He.ga K n))) (some false)) &&
  cs.all fun c => He.eqO (PySem.W.nsIn K mainGlobals c) (some (some (.ref (He.ga K c)))) && ((insL K (He.ga K c)).all _root_.id && okD (PySem.W.kitOne K (.ref (He.ga K c)) (.ref (He.ga K n))) (some (c == n))))
theorem ownIs_of {K : PySem.W.Frag} {h : Heap} {mg : Str → Option Value} {cs : List Str} {n : Str} (X : K.In h) (G : h.Ns mainGlobals mg) (hb : ownIB K cs n = true) : OwnIs K mg cs n (He.ga K n) := by
  obtain ⟨h1, h2⟩ := He.ba hb
  obtain ⟨h2, h3⟩ := He.ba h2
  refine ⟨PySem.W.mg_of X G (He.eqO_ok h1), fun T hT => okD_ok (List.all_eq_true.mp h2 T hT), fun c hc Ca e => ?_⟩
  obtain ⟨k1, k2⟩ := He.ba (List.all_eq_true.mp h3 c hc)
  obtain ⟨k2, k3⟩ := He.ba k2
  have e2 := (PySem.W.mg_of X G (He.eqO_ok k1)).symm.trans e
  cases e2
  exact ⟨insC_of k2, okD_ok k3⟩
def iDef (c : Str) (q : Str) (st : Stmt) : He.DefD := ⟨(c, some "__init__"), "__init__", q, defArgs st, defBody st, defScope st, [], []⟩
def insB (K : PySem.W.Frag) (c : Str) : Bool := (insL K (He.ga K c)).all _root_.id
end RW
/-! RwRep: a tuple times a number. -/
namespace RW
open PySem PySem.Spec PyProof.Rows L2
/-- once: the tuple itself -/
theorem tuple_once (l : Addr) (items : Array Value) (n : Nat) (dd : Option Addr) (sl : Array (Option Value)) (u : Tok) : Meets (Builtin.«tuple.__mul__» ⟨[.ref l, .int 1 u], []⟩)
    (fun _ R s => s.heap.get? l = some { cls := .type "tuple", dict := dd, data := .seq items n, slots := sl } ∧ R (.ok (.ret (Value.ref l))) s) :=
  .of_wp fun prog w A R s h => by
    obtain ⟨hp, g, d, tk, os⟩ := s
    obtain ⟨hl, h⟩ := h
    have f1 := AutoSeq1.idx_int
    have one : (items.isEmpty || ((1 : Int) == 1)) = true := by simp
    have fit : ¬ (decide ((1 : Int) < -(2 ^ 63)) || decide ((1 : Int) ≥ 2 ^ 63)) = true := by decide
    wp_walk using wpAny_loadPart' hl
    repeat (first
      | (refine wpAny_ite_false (decide_eq_false fit) ?_; wp_walk using wpAny_loadPart' hl)
      | (refine wpAny_ite_true (decide_eq_true one) ?_; wp_walk using wpAny_loadPart' hl))
    exact ⟨_, rfl, h⟩
variable [Tbl]
section
variable {X : Cx}
theorem op_once : OpR X (binaryOp .Mult) (fun x y H Q => ∃ l xs, x = .ref l ∧ y = .int 1 ∧ SqT X.K H l xs ∧ Q (.ref l) H) := by
  intro pins s σ H x y v u Q I rx ry h
  obtain ⟨l, xs, rfl, rfl, hT, q⟩ := h
  cases rx
  obtain ⟨t, rfl⟩ := ry
  obtain ⟨its, r, ⟨⟨cls, dd, data, sl⟩, ho, hc, n, hd⟩, hs⟩ := I.tuple hT
  simp only at hc hd
  subst hc hd
  exact wpAny_binaryOp_repeat_ref (T := "tuple") (U := "int") (by decide) ⟨_, ho, rfl⟩ (fun s' => typeIs_int s' 1 t) noFill_tuple_mul F.fills_int_mul F.slot_int_rmul repeat_tuple F.slot_int_index.lookup
    (call_meets F.slot_int_rmul (typeIs_int s 1 t) F.entry_int_rmul (F.args_int_rmul_2 _ _) (int_rmul_tuple 1 t l its.toArray n dd sl)
      ⟨ho, rfl, ⟨_, ho, rfl⟩, call_meets F.slot_tuple_mul ⟨_, ho, rfl⟩ F.entry_tuple_mul (F.args_tuple_mul_2 _ _) (tuple_once l its.toArray n dd sl t) ⟨ho, .ref l, H, I, rfl, q⟩⟩)
def repD (a b : D) : D := match a, b with
  | .tup xs, .int k => .tup (List.replicate k.toNat xs).flatten
  | _, _ => .non
def cRep (a b : D) : Prop := ∃ xs k, a = .tup xs ∧ b = .int k ∧ xs ≠ [] ∧ 1 ≤ k ∧ k ≤ 1000 ∧ xs.length ≤ 1000
theorem RVs.rep {C : Cxt} {g : Gh} {B : Addr → Prop} {H : Hp} {ds : List D} {vs : List V} (h : RVs C g B H ds vs) : ∀ k : Nat, RVs C g B H (List.replicate k ds).flatten (List.replicate k vs).flatten
  | 0 => .nil
  | k + 1 => by
    rw [List.replicate_succ, List.replicate_succ, List.flatten_cons, List.flatten_cons]
    exact h.append (RVs.rep h k)
theorem o_rep : OpM X (binaryOp .Mult) (opC cRep repD) := by
  refine (OpD.imp (OpD.or (c := fun a b => ∃ xs, a = .tup xs ∧ b = .int 1) (c' := fun a b => ∃ xs k, a = .tup xs ∧ b = .int k ∧ xs ≠ [] ∧ 2 ≤ k ∧ k ≤ 1000 ∧ xs.length ≤ 1000) ⟨_, op_once, ?_⟩ ⟨_, op_repT, ?_⟩) ?_).m
  · intro g B0 ρ S H a b x y Q R ra rb hc k
    obtain ⟨xs, rfl, rfl⟩ := hc
    have rx := ra.toRV fun _ => by simp
    obtain ⟨p, vs, rfl, s1, r1⟩ := ra.sqT
    refine ⟨p, vs, rfl, rb.int, s1, k _ _ R Ext.refl ?_⟩
    have e : repD (.tup xs) (.int 1) = .tup xs := by
      show D.tup (List.replicate 1 xs).flatten = _
      simp
    rw [e]
    exact rx
  · intro g B0 ρ S H a b x y Q R ra rb hc k
    obtain ⟨xs, n, rfl, rfl, h1, h2, h3, h4⟩ := hc
    obtain ⟨p, vs, rfl, s1, r1⟩ := ra.sqT
    refine ⟨p, n, vs, rfl, rb.int, s1, fun z => h1 ?_, h2, h3, by rw [← r1.length]; exact h4, fun q hq => ?_⟩
    · subst z
      cases r1
      rfl
    · obtain ⟨R2, e2, nb⟩ := R.new (o := .tup (List.replicate n.toNat vs).flatten) hq
      exact k _ _ R2 e2 (.tup upd_same ((r1.rep n.toNat).mono e2.up))
  · intro a b h
    obtain ⟨xs, k, rfl, rfl, h1, h2, h3, h4⟩ := h
    by_cases e : k = 1
    · exact .inl ⟨xs, rfl, by rw [e]⟩
    · exact .inr ⟨xs, k, rfl, rfl, h1, by omega, h3, h4⟩
end
abbrev xRep : MO := opC cRep repD
end RW
/-! RwLc2: comprehensions with tuples as targets; zip; range(a, b, -1). -/
namespace RW
open PySem PySem.Spec PyProof.Rows L2 RZ
variable [Tbl]
/-- a target, its transformer told -/
structure MGT (X : Cx) (is : List Nat) (tg : Expr) (f : MG) (t : TG) : Prop where
  pg : PG X tg t
  go : ∀ g B0 ρ S H (env env' : MEnv) σ x v Q, Rel (ctx X) g B0 ρ S H → EnvR (ctx X) g (Bad g B0 ρ S) ρ H env σ → RV (ctx X) g (Bad g B0 ρ S) H x v → f x env = some env' →
    (∀ σ', AwayFrom is σ σ' → EnvR (ctx X) g (Bad g B0 ρ S) ρ H env' σ' → Q σ' H) → t v σ H Q
structure MGTs (X : Cx) (is : List Nat) (tgs : List Expr) (fs : List MG) (t : TGs) : Prop where
  pg : PGs X tgs t
  go : ∀ g B0 ρ S H (env env' : MEnv) σ xs vs Q, Rel (ctx X) g B0 ρ S H → EnvR (ctx X) g (Bad g B0 ρ S) ρ H env σ → RVs (ctx X) g (Bad g B0 ρ S) H xs vs → gTupGo fs xs env = some env' →
    (∀ σ', AwayFrom is σ σ' → EnvR (ctx X) g (Bad g B0 ρ S) ρ H env' σ' → Q σ' H) → t vs σ H Q
section
variable {X : Cx} {is : List Nat}
theorem mgt_name {i : Nat} {x : Str} {pos : Pos} (hN : X.N.Nodup) (hm : i ∈ is := by first | exact List.mem_cons_self .. | decide) (hi : X.N[i]? = some x := by rfl) (hx : Loc X.env.scope x := by first | exact Or.inl rfl | exact Or.inr rfl)
    (hf : X.fn x = true ∨ X.env.scope.names.lookup x = some .local := by first | exact .inl rfl | exact .inr rfl | assumption) : MGT X is (.Name x pos) (gN i) (gName i) := by
  refine ⟨pg_name (i := i) hN hi hx hf, fun g B0 ρ S H env env' σ x v Q R N r e k => ?_⟩
  cases e
  refine k _ ⟨by rw [List.length_set], fun j hj => ?_⟩ (N.set i r)
  have hij : i ≠ j := fun z => hj (by rw [← z]; exact hm)
  rw [List.getElem?_set_ne hij]
theorem mgts_nil : MGTs X is [] [] gNil := by
  refine ⟨pgs_nil, fun g B0 ρ S H env env' σ xs vs Q R N r e k => ?_⟩
  cases r with
  | nil =>
    cases e
    exact ⟨rfl, k σ .refl N⟩
  | cons h t => cases e
theorem mgts_cons {e : Expr} {es : List Expr} {f : MG} {fs : List MG} {t1 : TG} {t2 : TGs} (h1 : MGT X is e f t1) (h2 : MGTs X is es fs t2) (hs : (assignEach (e :: es) X.env).map (·.2) = assign e X.env :: (assignEach es X.env).map (·.2) := by rfl) : MGTs X is (e :: es) (f :: fs) (gCons t1 t2) := by
  refine ⟨pgs_cons h1.pg h2.pg hs, fun g B0 ρ S H env env' σ xs vs Q R N r e k => ?_⟩
  cases r with
  | nil => cases e
  | cons h t =>
    rename_i x v xs' vs'
    unfold gTupGo at e
    cases he : f x env with
    | none => rw [he] at e; cases e
    | some env1 =>
      rw [he] at e
      exact ⟨v, vs', rfl, h1.go g B0 ρ S H env env1 σ x v _ R N h he fun σ1 a1 N1 => h2.go g B0 ρ S H env1 env' σ1 xs' vs' Q R N1 t e fun σ2 a2 N2 => k σ2 (a1.trans a2) N2⟩
theorem gTup_len : ∀ (fs : List MG) (xs : List D) (env env' : MEnv), gTupGo fs xs env = some env' → xs.length = fs.length
  | [], [], _, _, _ => rfl
  | [], _ :: _, _, _, e => by cases e
  | _ :: _, [], _, _, e => by cases e
  | f :: fs, x :: xs, env, env', e => by
    unfold gTupGo at e
    cases he : f x env with
    | none => rw [he] at e; cases e
    | some env1 =>
      rw [he] at e
      exact congrArg (· + 1) (gTup_len fs xs env1 env' e)
theorem mgt_tup {es : List Expr} {fs : List MG} {t : TGs} {k : Nat} {n : Nat} {pos : Pos} (hc : X.calm = true) (h : MGTs X is es fs t) (hl : fs.length = n := by rfl) (hn : (assignEach es X.env).length = n := by rfl) (hst : (assignEach es X.env).findIdx? (·.1) = none := by rfl) :
    MGT X is (.Tuple es k pos) (gT fs) (gTup X.K n t) := by
  refine ⟨pg_tup hc h.pg hn hst, fun g B0 ρ S H env env' σ x v Q R N r e kk => ?_⟩
  cases r with
  | tup hq rs =>
    rename_i a vs xs
    exact ⟨a, vs, rfl, (.inl (.inl hq)), by rw [← rs.length, gTup_len fs xs env env' e, hl], h.go g B0 ρ S H env env' σ xs vs Q R N rs e kk⟩
  | _ => cases e
end
section
variable {E : XK} {X : Cx} {iter elt tg : Expr} {ifs : List Expr} {scope : Scope} {own : List (Str × Nat)} {mi : MI} {f : MG} {t : TG} {tt : MT} {te : MX}
theorem lcj_tgt (hi : MIJ E X tg iter mi) (ok : BlkOk X.N X.env.scope scope own) (hg : ∀ (s : Shared) (H : Hp) (C : Addr) (cl : List (Str × Addr)) (fp : List Addr), MGT (X.blk s H scope (compEnvC scope cl C X.env) fp) (own.map (·.2)) tg f t)
    (ht : ∀ (s : Shared) (H : Hp) (C : Addr) (cl : List (Str × Addr)) (fp : List Addr), MTsJ E0' (X.blk s H scope (compEnvC scope cl C X.env) fp) ifs tt)
    (he : ∀ (s : Shared) (H : Hp) (C : Addr) (cl : List (Str × Addr)) (fp : List Addr), ME E0' (X.blk s H scope (compEnvC scope cl C X.env) fp) elt te) : LcJ E X elt tg iter ifs scope own mi f tt te where
  i := hi
  ok := ok
  g := ⟨t, fun s H C cl fp => (hg s H C cl fp).pg, (hg X.s_0 X.H_0 0 [] []).go⟩
  t := ⟨fun s H C cl fp => (ht s H C cl fp).pt, (ht X.s_0 X.H_0 0 [] []).mono⟩
  e := ⟨fun s H C cl fp => (he s H C cl fp).pe, (he X.s_0 X.H_0 0 [] []).mono⟩
end
/-! ### range(a, b, -1) -/
def downD (i : Int) (n : Nat) : List D := (List.range n).map fun (k : Nat) => D.int (i - (k : Int))
def mDown (t : MA) : MI := fun env S Q E => t env S (fun ws S1 => ∃ i j, ws = [.d (.int i), .d (.int j), .d (.int (-1))] ∧ (-(2 ^ 62) ≤ i ∧ i < 2 ^ 62 ∧ -(2 ^ 62) ≤ j ∧ j < 2 ^ 62) ∧ Q (downD i (i - j).toNat) (fun _ => True) S1) E
section
variable {C : Cxt} {g : Gh} {B0 : Addr → Prop} {ρ : List Addr} {S : Sto} {H : Hp}
theorem walks_down {lo : Int} {n : Nat} (gd : Sto → Prop) : Walks C g B0 ρ S H (Itc lo (-1) n) (downD lo n) gd := by
  refine ⟨fun g' B' ρ' S' H' _ R e _ => by show n ≤ (downD lo n).length; simp [downD], fun i d g' B' ρ' S' H' _ nn hi R e _ => ?_⟩
  have hl : i < n := by
    have := (List.getElem?_eq_some_iff.mp hi).1
    simpa [downD] using this
  have hd : d = .int (lo - (i : Int)) := by
    unfold downD at hi
    rw [List.getElem?_map, List.getElem?_range hl] at hi
    exact (Option.some.inj hi).symm
  subst hd
  exact ⟨hl, fun x H2 ⟨eH, ex⟩ => by
    subst eH ex
    have e : lo + ((i : Nat) : Int) * (-1) = lo - i := by omega
    rw [e]
    exact ⟨R, Ext.refl, .int _⟩⟩
/-- zip of two lists or two tuples -/
def zipD (xs ys : List D) : List D := List.zipWith (fun x y => D.tup [x, y]) xs ys
theorem zipD_get (xs ys : List D) (i : Nat) {d : D} (h : (zipD xs ys)[i]? = some d) : ∃ x y, xs[i]? = some x ∧ ys[i]? = some y ∧ d = .tup [x, y] := by
  unfold zipD at h
  rw [List.getElem?_zipWith] at h
  cases hx : xs[i]? with
  | none => rw [hx] at h; cases h
  | some x =>
    cases hy : ys[i]? with
    | none => rw [hx, hy] at h; cases h
    | some y =>
      rw [hx, hy] at h
      exact ⟨x, y, rfl, rfl, (Option.some.inj h).symm⟩
theorem zipD_len (xs ys : List D) : (zipD xs ys).length = min xs.length ys.length := by simp [zipD]
theorem walks_zipT {a b : Addr} {xs ys : List D} {vs us : List V} (ha : H a = some (.tup vs)) (hb : H b = some (.tup us)) (ra : RVs C g (Bad g B0 ρ S) H xs vs) (rb : RVs C g (Bad g B0 ρ S) H ys us) (gd : Sto → Prop) : Walks C g B0 ρ S H (ItzT C.K a b) (zipD xs ys) gd := by
  refine ⟨fun g' B' ρ' S' H' _ R e _ => ⟨vs, us, SqT.here e (.inl (.inl ha)), SqT.here e (.inl (.inl hb)), ?_⟩, fun i d g' B' ρ' S' H' _ n hi R e _ => ?_⟩
  · rw [zipD_len, ra.length, rb.length]
    omega
  · obtain ⟨x, y, hx, hy, rfl⟩ := zipD_get xs ys i hi
    obtain ⟨v, hv, rv⟩ := ra.get hx
    obtain ⟨u, hu, ru⟩ := rb.get hy
    refine ⟨⟨vs, us, v, u, SqT.here e (.inl (.inl ha)), SqT.here e (.inl (.inl hb)), hv, hu⟩, fun z H2 ⟨T, v', u', ez, hT, eH, q1, q2⟩ => ?_⟩
    have h1 := q1 vs (SqT.here e (.inl (.inl ha)))
    have h2 := q2 us (SqT.here e (.inl (.inl hb)))
    rw [hv] at h1
    rw [hu] at h2
    cases h1
    cases h2
    subst eH ez
    obtain ⟨R2, e2, _⟩ := R.new (o := .tup [v, u]) hT
    exact ⟨R2, e2, .tup upd_same (.cons (RV.mono e2.up (rv.mono (e.upB n))) (.cons (RV.mono e2.up (ru.mono (e.upB n))) .nil))⟩
theorem walks_zipL {a b : Addr} {xs ys : List D} {vs us : List V} (ha : NdL C (Bad g B0 ρ S) H a vs) (hb : NdL C (Bad g B0 ρ S) H b us) (ra : RVs C g (Bad g B0 ρ S) H xs vs) (rb : RVs C g (Bad g B0 ρ S) H ys us) (gd : Sto → Prop) : Walks C g B0 ρ S H (Itz C.K a b) (zipD xs ys) gd := by
  refine ⟨fun g' B' ρ' S' H' _ R e _ => ⟨vs, us, ha.here e, hb.here e, ?_⟩, fun i d g' B' ρ' S' H' _ n hi R e _ => ?_⟩
  · rw [zipD_len, ra.length, rb.length]
    omega
  · obtain ⟨x, y, hx, hy, rfl⟩ := zipD_get xs ys i hi
    obtain ⟨v, hv, rv⟩ := ra.get hx
    obtain ⟨u, hu, ru⟩ := rb.get hy
    refine ⟨⟨vs, us, v, u, ha.here e, hb.here e, hv, hu⟩, fun z H2 ⟨T, v', u', ez, hT, eH, q1, q2⟩ => ?_⟩
    have h1 := q1 vs (ha.here e)
    have h2 := q2 us (hb.here e)
    rw [hv] at h1
    rw [hu] at h2
    cases h1
    cases h2
    subst eH ez
    obtain ⟨R2, e2, _⟩ := R.new (o := .tup [v, u]) hT
    exact ⟨R2, e2, .tup upd_same (.cons (RV.mono e2.up (rv.mono (e.upB n))) (.cons (RV.mono e2.up (ru.mono (e.upB n))) .nil))⟩
end
section
variable {E : XK} {X : Cx} {tg : Expr} {t : MA} {pos : Pos}
theorem mi_down {a b c : Expr} {p : Pos} (hm : X.mg "range" = none) (ht : MAJ E X [a, b, c] t) (hg : Gl X "range" := by rfl) (hs : starEach [a, b, c] X.env = (false, eval a X.env) :: starEach [b, c] X.env := by rfl) (hpl : (backTo pos (starEach [b, c] X.env)).any (·.1) = false := by rfl) :
    MIJ E X tg (.Call (.Name "range" p) [a, b, c] [] pos) (mDown t) := by
  refine ⟨PI.imp (pi_range3 hg hm ht.pa hs hpl) fun σ H R' ⟨g, B0, ρ, env, S, R, N, q⟩ => ?_, fun env S Q Q' E E' h hx q => ht.mono _ _ _ _ _ _ (fun w S' ⟨n, k, a, b, c⟩ => ⟨n, k, a, b, h _ _ _ c⟩) hx q⟩
  refine tMA.go ht.mono R N q (fun _ z => z) fun ws S1 ⟨i, j, ew, hb, q1⟩ g1 ρ1 H1 vs R1 e1 r1 => ?_
  subst ew
  cases r1 with
  | cons ra rn =>
    cases rn with
    | cons rb rn =>
      cases rn with
      | cons rc rn =>
        cases rn
        cases (show RV _ _ _ _ (.int i) _ from ra)
        cases (show RV _ _ _ _ (.int j) _ from rb)
        cases (show RV _ _ _ _ (.int (-1)) _ from rc)
        exact ⟨i, j, -1, _, rfl, RgC.neg hb.1 hb.2.1 hb.2.2.1 hb.2.2.2, q1 g1 ρ1 H1 _ R1 e1 (walks_down _)⟩
def mZip (t : MA) : MI := fun env S Q E => t env S (fun ws S1 => ∃ xs ys, (ws = [.d (.lst xs), .d (.lst ys)] ∨ ws = [.d (.tup xs), .d (.tup ys)]) ∧ Q (zipD xs ys) (fun _ => True) S1) E
theorem mi_zip {a b : Expr} {p tpos : Pos} {elts : List Expr} {kk : Nat} (hm : X.mg "zip" = none) (ht : MAJ E X [a, b] t) (hg : Gl X "zip" := by rfl) (hs : starEach [a, b] X.env = (false, eval a X.env) :: starEach [b] X.env := by rfl) (hpl : (backTo pos (starEach [b] X.env)).any (·.1) = false := by rfl) :
    MIJ E X (.Tuple elts kk tpos) (.Call (.Name "zip" p) [a, b] [] pos) (mZip t) := by
  refine ⟨PI.imp (pi_zipA hg hm ht.pa hs hpl) fun σ H R' ⟨g, B0, ρ, env, S, R, N, q⟩ => ?_, fun env S Q Q' E E' h hx q => ht.mono _ _ _ _ _ _ (fun w S' ⟨n, k, a, b⟩ => ⟨n, k, a, h _ _ _ b⟩) hx q⟩
  refine tMA.go ht.mono R N q (fun _ z => z) fun ws S1 ⟨xs, ys, ew, q1⟩ g1 ρ1 H1 vs R1 e1 r1 => ?_
  rcases ew with rfl | rfl
  · cases r1 with
    | cons ra rn =>
      cases rn with
      | cons rb rn =>
        cases rn
        cases (show RV _ _ _ _ (.lst xs) _ from ra) with
        | lst ha rsa =>
          cases (show RV _ _ _ _ (.lst ys) _ from rb) with
          | lst hb rsb => exact ⟨_, _, _, _, rfl, .inl ⟨ha.sq, hb.sq, q1 g1 ρ1 H1 _ R1 e1 (walks_zipL (C := ctx X) ha hb rsa rsb _)⟩⟩
  · cases r1 with
    | cons ra rn =>
      cases rn with
      | cons rb rn =>
        cases rn
        cases (show RV _ _ _ _ (.tup xs) _ from ra) with
        | tup ha rsa =>
          cases (show RV _ _ _ _ (.tup ys) _ from rb) with
          | tup hb rsb => exact ⟨_, _, _, _, rfl, .inr ⟨.inl (.inl ha), .inl (.inl hb), q1 g1 ρ1 H1 _ R1 e1 (walks_zipT (C := ctx X) ha hb rsa rsb _)⟩⟩
end
end RW
/-! RwInT: x in a list of tuples; isinstance with two own classes; an item of a store's list, a list of the store too. -/
namespace RW
open PySem PySem.Spec PyProof.Rows L2
variable [Tbl]
def cInD (a b : D) : Prop := ∃ p ds, toPy a = some p ∧ toPy b = some (.list ds) ∧ SeqAt.shaped p = true ∧ SeqAt.shaped (.list ds) = true
def inD (a b : D) : Bool := match toPy a, toPy b with
  | some p, some (.list ds) => ds.any fun z => PyData.eqv z p
  | _, _ => false
theorem inD_of {a b : D} {p : PyData} {ds : List PyData} (h : toPy a = some p) (h' : toPy b = some (.list ds)) : inD a b = ds.any fun z => PyData.eqv z p := by
  unfold inD
  rw [h, h']
section
variable {X : Cx}
theorem o_inD (hu : X.A.units + 65 < cLine) : OpM X (compareOp .In) (opC cInD fun a b => .bl (inD a b)) := OpD.m ⟨_, op_inD hu, fun g B0 ρ S H a b x y Q R ra rb hc k => by
  obtain ⟨p, ds, h1, h2, s1, s2⟩ := hc
  refine ⟨p, ds, ra.dp h1, rb.dp h2, s1, s2, ?_⟩
  rw [← inD_of h1 h2]
  exact k H _ R Ext.refl (.bl _)⟩
theorem o_notInD (hu : X.A.units + 65 < cLine) : OpM X (compareOp .NotIn) (opC cInD fun a b => .bl (!inD a b)) := OpD.m ⟨_, op_notInD hu, fun g B0 ρ S H a b x y Q R ra rb hc k => by
  obtain ⟨p, ds, h1, h2, s1, s2⟩ := hc
  refine ⟨p, ds, ra.dp h1, rb.dp h2, s1, s2, ?_⟩
  rw [← inD_of h1 h2]
  exact k H _ R Ext.refl (.bl _)⟩
end
abbrev xInD : MO := opC cInD fun a b => .bl (inD a b)
abbrev xNotInD : MO := opC cInD fun a b => .bl (!inD a b)
/-! isinstance(x, (C1, C2)), own classes -/
def mIsO2 (cs : List Str) (n1 n2 : Str) (m : MX) : MX := fun env S Q E => m env S (fun w S1 => ∃ d, rd S1 w = some d ∧ okIo cs d ∧ Q (.d (.bl (isOD n1 d || isOD n2 d))) S1) E
theorem own_kit {K : PySem.W.Frag} {mg : Str → Option Value} {cs : List Str} {n : Str} {Cn : Addr} (hC : OwnIs K mg cs n Cn) {d : D} (hs : okIo cs d) {t : Value} (hi : ∀ c fs, d = .ins c fs → ∃ Ca, mg c = some (.ref Ca)) (ct : clsD mg d t) : PySem.W.kitOne K t (.ref Cn) = some (isOD n d) := by
  have base : ∀ {U : String}, tyNm d = some U → isOD n d = false → t = .type U → PySem.W.kitOne K t (.ref Cn) = some (isOD n d) := fun {U} ht hf et => by rw [hf, et]; exact hC.ty U (tyNm_base ht)
  cases d with
  | ins c fs =>
    obtain ⟨Ca, h⟩ := hi c fs rfl
    have z : mg c = some t := ct
    cases h.symm.trans z
    exact (hC.ex c hs _ z).2
  | non => obtain ⟨T, h1, h2⟩ := ct; exact base h1 rfl h2
  | bl b => obtain ⟨T, h1, h2⟩ := ct; exact base h1 rfl h2
  | int b => obtain ⟨T, h1, h2⟩ := ct; exact base h1 rfl h2
  | str b => obtain ⟨T, h1, h2⟩ := ct; exact base h1 rfl h2
  | tup b => obtain ⟨T, h1, h2⟩ := ct; exact base h1 rfl h2
  | lst b => obtain ⟨T, h1, h2⟩ := ct; exact base h1 rfl h2
  | dic b => obtain ⟨T, h1, h2⟩ := ct; exact base h1 rfl h2
  | drw => obtain ⟨T, h1, h2⟩ := ct; exact base h1 rfl h2
  | _ => simp [okIo, tyNm] at hs
theorem me_isO2 {E : XK} {X : Cx} {cs : List Str} {n1 n2 : Str} {C1 C2 : Addr} {a : Expr} {ma : MX} {kk : Nat} {p p1 p2 pt pos : Pos} (h1 : OwnIs X.K X.mg cs n1 C1) (h2 : OwnIs X.K X.mg cs n2 C2) (hm : X.mg "isinstance" = none) (ha : ME E X a ma)
    (hg : Gl X "isinstance" := by rfl) (hg1 : Gl X n1 := by rfl) (hg2 : Gl X n2 := by rfl) (hd1 : (n1 == ("__debug__" : Str)) = false := by decide) (hd2 : (n2 == ("__debug__" : Str)) = false := by decide)
    (ht1 : starEach [.Name n1 p1, .Name n2 p2] X.env = (false, eval (.Name n1 p1) X.env) :: starEach [.Name n2 p2] X.env := by rfl) (ht2 : starEach [.Name n2 p2] X.env = (false, eval (.Name n2 p2) X.env) :: starEach [] X.env := by rfl)
    (he : starEach [a, .Tuple [.Name n1 p1, .Name n2 p2] kk pt] X.env = (false, eval a X.env) :: starEach [.Tuple [.Name n1 p1, .Name n2 p2] kk pt] X.env := by rfl)
    (he2 : starEach [.Tuple [.Name n1 p1, .Name n2 p2] kk pt] X.env = (false, eval (.Tuple [.Name n1 p1, .Name n2 p2] kk pt) X.env) :: starEach [] X.env := by rfl)
    (hpl : (backTo pos (starEach [.Tuple [.Name n1 p1, .Name n2 p2] kk pt] X.env)).any (·.1) = false := by rfl) :
    ME E X (.Call (.Name "isinstance" p) [a, .Tuple [.Name n1 p1, .Name n2 p2] kk pt] [] pos) (mIsO2 cs n1 n2 ma) := by
  refine ⟨PE.imp (pe_callB call_isZT hg hm boot_isinstance (pa_cons ha.pe (pa_cons (pe_tup (pa_cons (pe_glob (v := .ref C1) hg1 h1.g rfl hd1) (pa_cons (pe_glob (v := .ref C2) hg2 h2.g rfl hd2) pa_nil ht2) ht1)) pa_nil he2) he) (by decide) (by decide) he hpl) fun σ H Q ⟨g, B0, ρ, env, S, R, N, q⟩ => ?_,
    fun env S Q Q' E E' h hx q => ha.mono _ _ _ _ _ _ (fun w S' ⟨x, a, b, z⟩ => ⟨x, a, b, h _ _ z⟩) hx q⟩
  refine tM.go ha.mono R N q (fun _ z => z) fun w S1 ⟨d, hd, hs, q1⟩ g1 ρ1 H1 v1 R1 e1 r1 => ?_
  refine ⟨by show 2 ≤ sizeLine; decide, fun tp htp => ?_⟩
  obtain ⟨R2, e2, _⟩ := R1.new (o := .tup [.ref C1, .ref C2]) htp
  have rr := R2.rd (r1.ext e2) (by exact hd)
  obtain ⟨t, ty, ct⟩ := rr.tyo hs (fun c hc Ca e => (h1.ex c hc Ca e).1) R2.dr
  have hi : ∀ c fs, d = .ins c fs → ∃ Ca, X.mg c = some (.ref Ca) := fun c fs e => by
    subst e
    have rv := rr.toRV fun _ => by simp
    cases rv with
    | ins hm' _ _ _ _ => exact ⟨_, hm'⟩
  have k1 := own_kit h1 hs hi ct
  have k2 := own_kit h2 hs hi ct
  refine ⟨v1, tp, [.ref C1, .ref C2], t, [.ref C1, .ref C2], (isOD n1 d || isOD n2 d), rfl, upd_same, .cons (.own C1) (.cons (.own C2) .nil), ty, ?_, q1 _ _ _ _ R2 (e1.trans e2) (RV.bl _)⟩
  refine kitAny_cons k1 (fun z => ?_) fun z => by rw [z]; rfl
  rw [z, Bool.false_or]
  exact kitAny_cons k2 (fun z => by rw [z]; exact kitAny_nil) fun z => z
end RW
/-! RwSk: dicts of the store with keys known at their writing: displays, name[key] = value, two such at once. -/
namespace RW
open PySem PySem.Spec PyProof.Rows L2
variable [Tbl]
section
variable {C : Cxt} {g g' g1 : Gh} {B0 B' : Addr → Prop} {ρ ρ' ρ1 : List Addr} {S S' S1 : Sto} {H H' H1 : Hp} {env : MEnv} {σ : L2.St}
/-- a protected object comes into the store -/
theorem Rel.adoptO {p : Addr} {o : O} (R : Rel C g (fun b => B0 b ∨ b = p) ρ S H) (n0 : ¬ B0 p) (no : ¬ Own g ρ S p) (hl : o.live = true) (r : OR C g (Bad g (fun b => B0 b ∨ b = p) ρ S) ρ H o p) :
    Rel C g B0 (ρ ++ [p]) (S ++ [o]) H ∧ Ext g B0 ρ S (fun b => if b = p then none else H b) g (ρ ++ [p]) (S ++ [o]) H := by
  have gS : ∀ {i : Nat} {x : O}, (S ++ [o])[i]? = some x → (i < S.length ∧ S[i]? = some x) ∨ (i = S.length ∧ x = o) := fun {i x} e => by
    by_cases hi : i < S.length
    · rw [List.getElem?_append_left hi] at e
      exact .inl ⟨hi, e⟩
    · rw [List.getElem?_append_right (by omega)] at e
      have : i - S.length = 0 := by
        have := (List.getElem?_eq_some_iff.mp e).1
        simp at this
        omega
      rw [this] at e
      exact .inr ⟨by omega, by simpa using e.symm⟩
  have gR : ∀ {i : Nat} {a : Addr}, i < S.length → ((ρ ++ [p])[i]? = some a ↔ ρ[i]? = some a) := fun {i a} hi => by rw [List.getElem?_append_left (by rw [R.len]; exact hi)]
  have gP : ∀ {a : Addr}, (ρ ++ [p])[S.length]? = some a → a = p := fun {a} e => by
    rw [← R.len, List.getElem?_append_right (Nat.le_refl _), Nat.sub_self] at e
    simpa using e.symm
  have ownI : ∀ b, Own g (ρ ++ [p]) (S ++ [o]) b → Own g ρ S b ∨ b = p := fun b z => by
    rcases z with z | ⟨i, x, h1, h2, h3⟩
    · exact .inl (.inl z)
    · rcases gS h1 with ⟨hi, e⟩ | ⟨rfl, rfl⟩
      · exact .inl (.inr ⟨i, x, e, h2, (gR hi).mp h3⟩)
      · exact .inr (gP h3)
  have U : Up g (Bad g (fun b => B0 b ∨ b = p) ρ S) H g (Bad g B0 (ρ ++ [p]) (S ++ [o])) H := ⟨fun _ _ e _ => e, fun b o e n => ⟨e, fun z => by
    rcases z with z | z
    · exact n (.inl (.inl z))
    · rcases ownI b z with z | z
      · exact n (.inr z)
      · exact n (.inl (.inr z))⟩, .refl⟩
  refine ⟨⟨by rw [List.length_append, List.length_append, R.len]; rfl, fun i x a h1 h2 => ?_, fun i j x y a h1 h2 h3 h4 h5 h6 => ?_, fun i x a h1 h2 h3 => ?_, fun a z => R.b0 a (.inl z), R.dr⟩, ⟨fun b o e _ => ?_, fun b o e _ => ?_, fun b o e n z => ?_, .refl, ⟨[p], rfl⟩⟩⟩
  · rcases gS h1 with ⟨hi, e⟩ | ⟨rfl, rfl⟩
    · exact (R.obj i x a e ((gR hi).mp h2)).mono U ⟨[p], rfl⟩ fun v q _ => q
    · rw [gP h2]
      exact r.mono U ⟨[p], rfl⟩ fun v q _ => q
  · rcases gS h1 with ⟨hi, e⟩ | ⟨rfl, rfl⟩ <;> rcases gS h2 with ⟨hj, e'⟩ | ⟨rfl, rfl⟩
    · exact R.inj i j x y a e e' h3 h4 ((gR hi).mp h5) ((gR hj).mp h6)
    · have := gP h6
      subst this
      exact absurd (.inr ⟨i, x, e, h3, (gR hi).mp h5⟩) no
    · have := gP h5
      subst this
      exact absurd (.inr ⟨j, y, e', h4, (gR hj).mp h6⟩) no
    · rfl
  · rcases gS h1 with ⟨hi, e⟩ | ⟨rfl, rfl⟩
    · exact ⟨fun z => (R.out i x a e h2 ((gR hi).mp h3)).1 (.inl z), (R.out i x a e h2 ((gR hi).mp h3)).2⟩
    · rw [gP h3]
      exact ⟨n0, fun z => no (.inl z)⟩
  · by_cases hb : b = p
    · rw [if_pos hb] at e; cases e
    · rw [if_neg hb] at e; exact e
  · by_cases hb : b = p
    · rw [if_pos hb] at e; cases e
    · rw [if_neg hb] at e; exact e
  · rcases ownI b z with z | z
    · exact n z
    · rw [if_pos z] at e; cases e
end
def putKW (kvs : List (Key × W)) (k : Key) (w : W) : List (Key × W) :=
  if (kvs.any fun kv => decide (kv.1 = k)) = true then kvs.map (fun kv => if kv.1 = k then (kv.1, w) else kv) else kvs ++ [(k, w)]
theorem paired_putK {F : W → V → Prop} {k : Key} {w : W} {v : V} (h : F w v) {kvs : List (Key × W)} {vs : List (Key × V)} (p : Paired (fun (a : Key × W) (b : Key × V) => a.1 = b.1 ∧ F a.2 b.2) kvs vs) : Paired (fun (a : Key × W) (b : Key × V) => a.1 = b.1 ∧ F a.2 b.2) (putKW kvs k w) (putK vs k v) := by
  have ea : (kvs.any fun kv => decide (kv.1 = k)) = vs.any fun kv => decide (kv.1 = k) := by
    induction p with
    | nil => rfl
    | cons a t ih => rw [List.any_cons, List.any_cons, ih, a.1]
  unfold putKW putK
  rw [ea]
  split
  · rename_i hh
    clear ea hh
    induction p with
    | nil => exact .nil
    | @cons x y xs ys a t ih =>
      rw [List.map_cons, List.map_cons]
      refine .cons ?_ ih
      rw [← a.1]
      split
      · exact ⟨a.1 ▸ rfl, h⟩
      · exact a
  · exact Paired.snoc p ⟨rfl, h⟩
def wKs (ks : List Str) (ws : List W) : List (Key × W) := List.zipWith (fun k w => ((Sum.inr k : Key), w)) ks ws
theorem paired_wKs {F : W → V → Prop} : ∀ (ks : List Str) {ws : List W} {vs : List V}, Paired F ws vs → Paired (fun (a : Key × W) (b : Key × V) => a.1 = b.1 ∧ F a.2 b.2) (wKs ks ws) (sKs ks vs)
  | [], _, _, _ => .nil
  | _ :: _, _, _, .nil => .nil
  | k :: ks, _, _, .cons h t => .cons ⟨rfl, h⟩ (paired_wKs ks t)
section
variable {E : XK} {X : Cx}
/-- {'a': x, ..}, a dict of the store -/
def mDispN (ks : List Str) (t : MA) : MX := fun env S Q E => t env S (fun ws S1 => Q (.ref S1.length) (S1 ++ [.dK (wKs ks ws)])) E
theorem me_dispN {pos : Pos} {keys : List (Option Expr)} {vals : List Expr} {ks : List Str} {t : MA} (h : MDJ E X pos keys vals ks t) (nd : ks.Nodup := by decide) (h15 : keys.length ≤ 15 := by decide) (h0 : keys ≠ [] := by simp) : ME E X (.Dict keys vals pos) (mDispN ks t) := by
  obtain ⟨trs, pp, go⟩ := h.ex
  refine ⟨PE.imp (pe_disp pp h.all h.l1 h0 h15) fun σ H Q ⟨g, B0, ρ, env, S, R, N, q⟩ p hp => ?_, fun env S Q Q' E E' k hx q => h.mono _ _ _ _ _ _ (fun w S' z => k _ _ z) hx q⟩
  have nB0 : ¬ B0 p := fun z => R.newBad hp (.inl z)
  obtain ⟨R0, no⟩ := R.guard (o := .dK []) hp
  have U : Up g (Bad g B0 ρ S) H g (Bad g (fun b => B0 b ∨ b = p) ρ S) (upd H p (.dK [])) := ⟨fun b u e _ => by rw [upd_ne (ne_of_none e hp)]; exact e, fun b u e n => ⟨by rw [upd_ne (ne_of_none e hp)]; exact e, fun z => by
    rcases z with (z | z) | z
    · exact n (.inl z)
    · exact ne_of_none e hp z
    · exact n (.inr z)⟩, .refl⟩
  have N0 : EnvR (ctx X) g (Bad g (fun b => B0 b ∨ b = p) ρ S) ρ (upd H p (.dK [])) env σ := ⟨N.1, fun i w hw => let ⟨v, a, b⟩ := N.2 i w hw; ⟨v, a, b.mono U ⟨[], by simp⟩⟩⟩
  refine go σ _ _ (tMA.go h.mono R0 N0 (h.len _ _ _ _ q) (fun x z => ?_) fun ws S1 ⟨hl, q1⟩ g1 ρ1 H1 vs R1 e1 r1 => ?_)
  · intro g' H' cls d R' x' rx
    refine z g' H' cls d (R'.dropB fun _ a => .inl a) ⟨fun b o a i => x'.imm b o (by rw [upd_ne (ne_of_none a hp)]; exact a) i, fun b o a n => x'.keep b o (by rw [upd_ne (ne_of_none a hp)]; exact a) n, fun b o a n => x'.own b o (by rw [upd_ne (ne_of_none a hp)]; exact a) n, x'.gh⟩ ?_
    exact rx.mono (Up.weak fun b a => a.elim (fun a => .inl (.inl a)) .inr)
  · have atp := e1.keep p _ upd_same no
    have np := e1.own p _ upd_same no
    refine ⟨atp, sKs ks vs, strVs_kvs ks vs, by
      have l1 := Paired.len r1
      have : (sKs ks vs).length ≤ ks.length := by rw [List.length_zipWith]; omega
      have l2 := h.l2
      omega, ?_⟩
    rw [merge_sKs ks vs [] nd (fun _ _ p hp => by cases hp), List.nil_append]
    obtain ⟨R2, U2⟩ := R1.writeB (p := p) (u := .dK (sKs ks vs)) (.inr rfl) np atp (fun z => z)
    obtain ⟨R3, e3⟩ := Rel.adoptO (o := .dK (wKs ks ws)) R2 nB0 np rfl ⟨sKs ks vs, upd_same, paired_wKs ks (Paired.mapP r1 fun _ _ z => z.mono U2 ⟨[], by simp⟩)⟩
    have e0 : Ext g B0 ρ S H g1 ρ1 S1 (fun b => if b = p then none else upd H1 p (.dK (sKs ks vs)) b) := by
      refine ⟨fun b u a i => ?_, fun b u a n => ?_, fun b u a n => e1.own b u (by rw [upd_ne (ne_of_none a hp)]; exact a) n, e1.gh, e1.pre⟩
      · have hb := ne_of_none a hp
        rw [if_neg hb, upd_ne hb]
        exact e1.imm b u (by rw [upd_ne hb]; exact a) i
      · have hb := ne_of_none a hp
        rw [if_neg hb, upd_ne hb]
        exact e1.keep b u (by rw [upd_ne hb]; exact a) n
    exact q1 g1 _ _ (.ref p) R3 (e0.trans e3) ⟨p, by rw [← R1.len]; simp, rfl⟩
/-! targets that write the store -/
structure MTS (E : XK) (X : Cx) (tg : Expr) (f : W → MEnv → Sto → (MEnv → Sto → Prop) → Prop) : Prop where
  ex : ∃ t, PG X tg t ∧ ∀ g B0 ρ S H (env : MEnv) σ w v (K : MEnv → Sto → Prop) (Q : L2.St → Hp → Prop), Rel (ctx X) g B0 ρ S H → EnvR (ctx X) g (Bad g B0 ρ S) ρ H env σ → RW (ctx X) g (Bad g B0 ρ S) ρ H w v → f w env S K →
    (∀ g' ρ' S' env' H' σ', Rel (ctx X) g' B0 ρ' S' H' → Ext g B0 ρ S H g' ρ' S' H' → EnvR (ctx X) g' (Bad g' B0 ρ' S') ρ' H' env' σ' → K env' S' → Q σ' H') → t v σ H Q
  mono : ∀ w env S K K', (∀ e s, K e s → K' e s) → f w env S K → f w env S K'
def fName (i : Nat) : W → MEnv → Sto → (MEnv → Sto → Prop) → Prop := fun w env S K => K (env.set i (some w)) S
theorem mts_name {i : Nat} {x : Str} {pos : Pos} (hN : X.N.Nodup) (hi : X.N[i]? = some x := by rfl) (hx : Loc X.env.scope x := by first | exact Or.inl rfl | exact Or.inr rfl)
    (hf : X.fn x = true ∨ X.env.scope.names.lookup x = some .local := by first | exact .inl rfl | exact .inr rfl | assumption) : MTS E X (.Name x pos) (fName i) :=
  ⟨⟨_, pg_name (i := i) hN hi hx hf, fun g B0 ρ S H env σ w v K Q R N r h k => k g ρ S _ H _ R Ext.refl (N.set i r) h⟩, fun _ _ _ _ _ h q => h _ _ q⟩
/-- name['key'] -/
def fPut (i : Nat) (k : Str) : W → MEnv → Sto → (MEnv → Sto → Prop) → Prop := fun w env S K => ∃ j kvs, env[i]? = some (some (.ref j)) ∧ S[j]? = some (.dK kvs) ∧ kvs.length < 1000 ∧ K env (S.set j (.dK (putKW kvs (.inr k) w)))
theorem mts_put {i : Nat} {o : Expr} {k : Str} {jj : Nat} {p pos : Pos} (hu : X.A.units + 1 < cLine) (ho : ME E X o (mVar i))
    (ha : ∀ v, assign (.Subscript o (.Constant (.str k) jj p) pos) X.env v = (do
      let ov ← holding [v] (eval o X.env)
      let iv ← holding [v, ov] (eval (.Constant (.str k) jj p) X.env)
      standAt pos
      holding [v, ov, iv] (setItem ov iv v)
      release [v, ov, iv] []) := by intro _; rfl) : MTS E X (.Subscript o (.Constant (.str k) jj p) pos) (fPut i k) := by
  refine ⟨⟨_, pg_sub ho.pe (me_str (E := E)).pe (set_dict hu) ha, fun g B0 ρ S H env σ w v K Q R N r ⟨j, kvs, hw, hj, hl, q⟩ kk => ?_⟩, fun w env S K K' h ⟨j, kvs, a, b, c, q⟩ => ⟨j, kvs, a, b, c, h _ _ q⟩⟩
  refine ⟨g, B0, ρ, env, S, R, N, .ref j, hw, fun g1 ρ1 H1 o1 R1 e1 r1 => ?_⟩
  refine ⟨g1, B0, ρ1, env, S, R1, N.ext e1, fun g2 ρ2 H2 i2 R2 e2 r2 => ?_⟩
  cases (show RV _ _ _ _ (.str k) i2 from r2)
  have r1' : RW (ctx X) g2 (Bad g2 B0 ρ2 S) ρ2 H2 (.ref j) o1 := RW.ext (w := .ref j) e2 r1
  obtain ⟨a, ha2, eo⟩ := r1'
  subst eo
  obtain ⟨vs, hv, pr⟩ := R2.obj j _ a hj ha2
  have r3 := (r.ext e1).ext e2
  have len := Paired.len pr
  refine ⟨a, upd H2 a (.dK (putK vs (.inr k) v)), rfl, DPut.k (k := .inr k) hv (by rw [← len]; exact Nat.lt_of_lt_of_le hl (by decide)), ?_⟩
  have bad : Bad g2 B0 ρ2 S a := .inr (.inr ⟨j, _, hj, rfl, ha2⟩)
  have u : Up g2 (Bad g2 B0 ρ2 S) H2 g2 (Bad g2 B0 ρ2 S) (upd H2 a (.dK (putK vs (.inr k) v))) := ⟨fun b o e im => by
    rw [upd_ne (show b ≠ a from fun z => by rw [z, hv] at e; cases e; exact im)]; exact e, fun b o e n => ⟨by rw [upd_ne (show b ≠ a from fun z => n (by rw [z]; exact bad))]; exact e, n⟩, .refl⟩
  have pp := paired_putK (k := .inr k) (F := RW (ctx X) g2 (Bad g2 B0 ρ2 S) ρ2 H2) r3 pr
  obtain ⟨R3, e3⟩ := R2.write (u := .dK (putK vs (.inr k) v)) (o := .dK (putKW kvs (.inr k) w)) hj rfl ha2 rfl hv (fun z => z) ⟨_, upd_same, Paired.mapP pp fun _ _ q => ⟨q.1, q.2.mono u ⟨[], by simp⟩⟩⟩
  exact kk g2 ρ2 _ env _ σ R3 ((e1.trans e2).trans e3) (((N.ext e1).ext e2).ext e3) q
/-- t1, t2 = a, b by a tuple -/
def sPar2 (f1 f2 : W → MEnv → Sto → (MEnv → Sto → Prop) → Prop) (t : MA) : MS := fun K env S => t env S (fun ws S' => ∃ w1 w2, ws = [w1, w2] ∧ f1 w1 env S' fun env1 S1 => f2 w2 env1 S1 K.nx) K.ex
theorem ms_par2 {f1 f2 : W → MEnv → Sto → (MEnv → Sto → Prop) → Prop} {t1 t2 a b : Expr} {t : MA} {k k2 : Nat} {pos pt pt2 : Pos} (hc : X.calm = true) (h1 : MTS E X t1 f1) (h2 : MTS E X t2 f2) (ha : MAJ E X [a, b] t) (hst : (assignEach [t1, t2] X.env).findIdx? (·.1) = none := by rfl) (hn : (assignEach [t1, t2] X.env).length = 2 := by rfl)
    (hs1 : (assignEach [t1, t2] X.env).map (·.2) = assign t1 X.env :: (assignEach [t2] X.env).map (·.2) := by rfl) (hs2 : (assignEach [t2] X.env).map (·.2) = assign t2 X.env :: (assignEach [] X.env).map (·.2) := by rfl) (ha2 : (assignEach [.Tuple [t1, t2] k pt] X.env).map (·.2) = [assign (.Tuple [t1, t2] k pt) X.env] := by rfl)
    (hw : swappedStores [.Tuple [t1, t2] k pt] (.Tuple [a, b] k2 pt2) X.env = pure none := by rfl) (hs : swapsWithSole [.Tuple [t1, t2] k pt] (.Tuple [a, b] k2 pt2) pos.line X.env = pure false := by rfl) : MSJ E X (.Assign [.Tuple [t1, t2] k pt] (.Tuple [a, b] k2 pt2) pos) (sPar2 f1 f2 t) := by
  obtain ⟨u1, p1, go1⟩ := h1.ex
  obtain ⟨u2, p2, go2⟩ := h2.ex
  have PGt := pg_tup (k := k) (pos := pt) hc (pgs_cons p1 (pgs_cons p2 pgs_nil hs2) hs1) hn hst
  refine ⟨⟨fun pins s σ H D I ⟨g, B0, ρ, env, S, R, N, q⟩ => ?_⟩, fun K K' env S kk h => ha.mono _ _ _ _ _ _ (fun w S' ⟨w1, w2, e, z⟩ => ⟨w1, w2, e, h1.mono _ _ _ _ _ (fun e1 s1 y => h2.mono _ _ _ _ _ (fun e2 s2 x => kk.nx _ _ x) y) z⟩) kk.ex h⟩
  refine wpAny_Assign_stores (thn ((pe_tup ha.pa).run pins s σ H (fun v H1 => gTup X.K 2 (gCons u1 (gCons u2 gNil)) v σ H1 D.nx) I ?_) fun u s1 ⟨v, H1, I1, r, q1⟩ => ?_) hs hw
  · refine tMA.go ha.mono R N q (fun _ z => z) fun ws S1 ⟨w1, w2, ew, q1⟩ g1 ρ1 H1 vs R1 e1 r1 => ?_
    subst ew
    cases r1 with
    | cons ra rr =>
      cases rr with
      | cons rb rn =>
        cases rn
        rename_i v1 v2
        refine ⟨by show 2 ≤ sizeLine; decide, fun tp htp => ?_⟩
        obtain ⟨R2, e2, _⟩ := R1.new (o := .tup [v1, v2]) htp
        refine ⟨tp, [v1, v2], rfl, .inl (.inl upd_same), rfl, v1, [v2], rfl, ?_⟩
        refine go1 g1 B0 ρ1 S1 _ env σ w1 v1 _ _ R2 ((N.ext e1).ext e2) (ra.ext e2) q1 fun g3 ρ3 S3 env3 H3 σ3 R3 e3 N3 q3 => ⟨v2, [], rfl, ?_⟩
        refine go2 g3 B0 ρ3 S3 H3 env3 σ3 w2 v2 _ _ R3 N3 ((rb.ext e2).ext e3) q3 fun g4 ρ4 S4 env4 H4 σ4 R4 e4 N4 q4 => ⟨rfl, ?_⟩
        exact q4 g4 ρ4 H4 σ4 R4 (((e1.trans e2).trans e3).trans e4) N4
  · rw [ha2]
    show wpAny _ _ (assignAll u [assign (.Tuple [t1, t2] k pt) X.env]) _ _ _
    have go2 := PGt.run pins s1 σ H1 v u D.nx I1 r q1
    unfold assignAll
    first
      | exact wpAny_mono go2 (fun _ s' ⟨σ', H', J, z⟩ => ⟨σ', H', J, z⟩) fun _ _ y => y
      | (refine wpAny_bind (wpAny_mono go2 (fun _ s' ⟨σ', H', J, z⟩ => ?_) fun _ _ y => y); unfold assignAll; exact wpAny_pure ⟨σ', H', J, z⟩)
end
end RW
/-! RwSetT: len(set(xs)), xs a list of less than 64 tuples of ints. -/
namespace RW
open PySem PySem.Spec PyProof.Rows L2
variable [Tbl]
def dCountT : List (List Int) → Nat
  | [] => 0
  | x :: xs => (if x ∈ xs then 0 else 1) + dCountT xs
theorem dCountT_of : ∀ (ns out : List (List Int)), out.Nodup → (∀ k, k ∈ out ↔ k ∈ ns) → out.length = dCountT ns
  | [], out, _, h => by
    cases out with
    | nil => rfl
    | cons a r => exact absurd ((h a).mp List.mem_cons_self) (by simp)
  | x :: xs, out, nd, h => by
    unfold dCountT
    by_cases hx : x ∈ xs
    · rw [if_pos hx, Nat.zero_add]
      exact dCountT_of xs out nd fun k => by
        rw [h k, List.mem_cons]
        exact ⟨fun z => z.elim (fun z => z ▸ hx) fun z => z, .inr⟩
    · rw [if_neg hx]
      have hxo : x ∈ out := (h x).mpr List.mem_cons_self
      have hl := List.length_erase_of_mem hxo
      have hp := List.length_pos_of_mem hxo
      have := dCountT_of xs (out.erase x) (nd.erase x) fun k => by
        rw [nd.mem_erase_iff, h k, List.mem_cons]
        exact ⟨fun ⟨n, z⟩ => z.elim (fun z => absurd z n) fun z => z, fun z => ⟨fun e => hx (e ▸ z), .inr z⟩⟩
      omega
theorem dCountT_nodup {ns : List (List Int)} (h : ns.Nodup) : dCountT ns = ns.length := (dCountT_of ns ns h fun _ => Iff.rfl).symm
section
variable {X : Cx}
theorem cr_lenSetT : CallR X (.builtin "len") (fun vs H Q => ∃ (a : Addr) (L : List (Addr × List Int)), vs = [.ref a] ∧ H a = some (SetTO X.prog X.w a L) ∧ ((L.map (·.2)).Nodup → Q (.int L.length) H)) := by
  intro pins s σ H vs us Q I r h
  obtain ⟨a, L, rfl, ha, q⟩ := h
  have R0 : SetT0 X.prog X.w s.heap a L := (I.hok a _ ha).1
  rw [Vals.ref1 r]
  obtain ⟨es, ep, t, ⟨o, ho, hex, hd⟩, rows, tab, nd, pl, led, room, few⟩ := R0.ex
  have hn : es.size = L.length := by
    rw [← Array.length_toList, rows]
    unfold rowsOf
    rw [List.length_map]
  refine call_len_set ho hex hd ?_ (by rw [hn]; omega) ⟨.int es.size, H, I.tok _, ⟨_, rfl⟩, ?_⟩
  · have h1 := tab.sz
    rw [List.length_map] at h1
    unfold SetTable.fits SetTable.fill
    rw [tab.dm, Bool.and_eq_true, beq_iff_eq, decide_eq_true_eq]
    show t.place.size = es.size ∧ t.place.size + 0 ≤ t.mask
    omega
  · rw [hn]
    exact q nd
theorem tups_src {C : Cxt} {g : Gh} {B : Addr → Prop} {H : Hp} : ∀ {nss : List (List Int)} {vs : List V}, RVs C g B H (nss.map tupI) vs → ∃ ks : List (Addr × List Int), vs = ks.map (fun p => V.ref p.1) ∧ ks.map (·.2) = nss ∧ ∀ p ∈ ks, SqT C.K H p.1 (p.2.map V.int)
  | [], _, h => by cases h; exact ⟨[], rfl, rfl, fun _ z => nomatch z⟩
  | ns :: nss, _, h => by
    rw [List.map_cons] at h
    cases h with
    | cons a r =>
      obtain ⟨ks, rfl, e2, h3⟩ := tups_src r
      cases (show RV C g B H (.tup (ns.map D.int)) _ from a) with
      | tup ht rs =>
        rename_i p vs'
        have ev : vs' = ns.map V.int := rs.intsD (intsD_mapI ns)
        subst ev
        refine ⟨(p, ns) :: ks, rfl, by rw [List.map_cons, e2], fun q hq => ?_⟩
        rcases List.mem_cons.mp hq with rfl | hq
        · exact .inl (.inl ht)
        · exact h3 q hq
def mSetLenT (m : MX) : MX := fun env S Q E => m env S (fun w S1 => ∃ nss : List (List Int), rd S1 w = some (.lst (nss.map tupI)) ∧ nss.length < 64 ∧ Q (.d (.int (dCountT nss : Nat))) S1) E
theorem me_setLenT {E : XK} {a : Expr} {ma : MX} {p p2 q pos : Pos} (hc : X.calm = true) (hu : X.A.units + 64 < cLine) (hm : X.mg "len" = none) (hm2 : X.mg "set" = none) (ha : ME E X a ma) (hg : Gl X "len" := by rfl) (hg2 : Gl X "set" := by rfl)
    (na : starEach [a] X.env = (false, eval a X.env) :: starEach [] X.env := by rfl) (na2 : starEach [.Call (.Name "set" p2) [a] [] q] X.env = (false, eval (.Call (.Name "set" p2) [a] [] q) X.env) :: starEach [] X.env := by rfl)
    (hpl : (backTo q (starEach [] X.env)).any (·.1) = false := by rfl) (hpl2 : (backTo pos (starEach [] X.env)).any (·.1) = false := by rfl) : ME E X (.Call (.Name "len" p) [.Call (.Name "set" p2) [a] [] q] [] pos) (mSetLenT ma) := by
  refine ⟨PE.imp (pe_callB cr_lenSetT hg hm boot_len (pa_cons (pe_callTy (cr_setOfT hc hu) hg2 hm2 (by decide +kernel : bootBuiltins "set" = some (.type "set")) (pa_cons ha.pe pa_nil na) (by decide) (by decide) na hpl) pa_nil na2) (by decide) (by decide) na2 hpl2) fun σ H Q ⟨g, B0, ρ, env, S, R, N, q⟩ => ?_,
    fun env S Q Q' E E' h hx q => ha.mono _ _ _ _ _ _ (fun w S' ⟨x, a, b, z⟩ => ⟨x, a, b, h _ _ z⟩) hx q⟩
  refine tM.go ha.mono R N q (fun _ z => z) fun w S1 ⟨nss, hd, hl, q1⟩ g1 ρ1 H1 v1 R1 e1 r1 => ?_
  obtain ⟨p, vs, ep, sq, rs⟩ := (R1.rd r1 hd).sqL
  obtain ⟨ks, ev, e2, h3⟩ := tups_src rs
  subst ep ev
  refine ⟨p, ks, rfl, sq, h3, by rw [← e2, List.length_map] at hl; exact hl, fun a L hn h4 h5 => ?_⟩
  obtain ⟨R2, e3, _⟩ := R1.new (o := SetTO X.prog X.w a L) hn
  refine ⟨a, L, rfl, upd_same, fun nd => ?_⟩
  have en : L.length = dCountT nss := by
    rw [← List.length_map (f := (·.2)) (as := L)]
    refine dCountT_of nss _ nd fun k => ?_
    rw [← e2]
    constructor
    · intro z
      obtain ⟨x, hx, rfl⟩ := List.mem_map.mp z
      exact List.mem_map_of_mem (h4 x hx)
    · intro z
      obtain ⟨x, hx, rfl⟩ := List.mem_map.mp z
      exact h5 x hx
  rw [en]
  exact q1 g1 ρ1 _ _ R2 (e1.trans e3) (RV.int _)
end
end RW
/-! RwNest: an item of a list of the store, whatever it is. -/
namespace RW
open PySem PySem.Spec PyProof.Rows L2
variable [Tbl]
section
variable {E : XK} {X : Cx} {a b : Expr} {ma mb : MX} {pos : Pos}
theorem paired_at {α β : Type} {F : α → β → Prop} {xs : List α} {ys : List β} (p : Paired F xs ys) {i : Int} {x : α} (h : L2.atI xs i = some x) : ∃ y, L2.atI ys i = some y ∧ F x y := by
  have hl := Paired.len p
  unfold L2.atI at h ⊢
  rw [← hl]
  cases q : ixN xs.length i with
  | none => rw [q] at h; cases h
  | some k =>
    rw [q] at h
    have h' : xs[k]? = some x := h
    have go : ∀ {xs : List α} {ys : List β} {k : Nat}, Paired F xs ys → xs[k]? = some x → ∃ y, ys[k]? = some y ∧ F x y := by
      intro xs ys k p
      induction p generalizing k with
      | nil => intro e; simp at e
      | cons a t ih =>
        intro e
        cases k with
        | zero => simp at e; subst e; exact ⟨_, rfl, a⟩
        | succ k => exact ih (by simpa using e)
    exact go p h'
def mIxW (ma mb : MX) : MX := fun env S Q E => ma env S (fun w1 S1 => mb env S1 (fun w2 S2 => ∃ i ws j w, w1 = .ref i ∧ w2 = .d (.int j) ∧ S2[i]? = some (.lst ws) ∧ L2.atI ws j = some w ∧ Q w S2) E) E
theorem me_ixW (ha : ME E X a ma) (hb : ME E X b mb) (hs : PlainIx b := by exact fun _ _ => rfl) : ME E X (.Subscript a b pos) (mIxW ma mb) := by
  refine ⟨PE.imp (pe_ix ix_list ha.pe hb.pe hs) fun σ H Q ⟨g, B0, ρ, env, S, R, N, q⟩ => ?_, fun env S Q Q' E E' h hx q => ha.mono _ _ _ _ _ _ (fun w S1 z => hb.mono _ _ _ _ _ _ (fun w2 S2 ⟨i, ws, j, w, a, b, c, d, z⟩ => ⟨i, ws, j, w, a, b, c, d, h _ _ z⟩) hx z) hx q⟩
  refine tM.go ha.mono R N q (fun _ z => z) fun w1 S1 q1 g1 ρ1 H1 v1 R1 e1 r1 => ?_
  refine tM.go hb.mono R1 (N.ext e1) q1 (fun x z => z.ext e1) fun w2 S2 ⟨i, ws, j, w, ew1, ew2, hi, hj, q2⟩ g2 ρ2 H2 v2 R2 e2 r2 => ?_
  subst ew1 ew2
  cases (show RV _ _ _ _ (.int j) v2 from r2)
  obtain ⟨ad, had, ev⟩ := (RW.ext (w := .ref i) e2 r1 : RW (ctx X) g2 (Bad g2 B0 ρ2 S2) ρ2 H2 (.ref i) v1)
  subst ev
  obtain ⟨vs, hv, pr⟩ := R2.obj i _ ad hi had
  obtain ⟨v, hv2, rv⟩ := paired_at pr hj
  exact ⟨ad, vs, j, v, rfl, rfl, .inl (.inl hv), hv2, q2 g2 ρ2 H2 v R2 (e1.trans e2) rv⟩
end
end RW
namespace RW
open PySem PySem.Spec PyProof.Rows L2
abbrev fReprX : List D → D := f1 fun d => .str (shownX d)
theorem boot_ValueError : bootBuiltins "ValueError" = some (.type "ValueError") := by decide +kernel
theorem boot_Exception : bootBuiltins "Exception" = some (.type "Exception") := by decide +kernel
end RW
/-! RwAsg: a, b = e, the value a tuple or a list. -/
namespace RW
open PySem PySem.Spec PyProof.Rows L2
variable [Tbl]
def sAsg (f : MG) (m : MX) : MS := fun K env S => m env S (fun w S' => ∃ x env', w = .d x ∧ f x env = some env' ∧ K.nx env' S') K.ex
theorem ms_asgT {E : XK} {X : Cx} {is : List Nat} {tg e : Expr} {f : MG} {m : MX} {pos : Pos} (hg : MGJ X is tg f) (he : ME E X e m) (ha : (assignEach [tg] X.env).map (·.2) = [assign tg X.env] := by rfl) (hw : swappedStores [tg] e X.env = pure none := by rfl)
    (hs : swapsWithSole [tg] e pos.line X.env = pure false := by rfl) : MSJ E X (.Assign [tg] e pos) (sAsg f m) := by
  obtain ⟨t, pg, go⟩ := hg.ex
  refine ⟨⟨fun pins s σ H D I ⟨g, B0, ρ, env, S, R, N, q⟩ => ?_⟩, fun K K' env S k h => he.mono _ _ _ _ _ _ (fun w S' ⟨x, env', a, b, z⟩ => ⟨x, env', a, b, k.nx _ _ z⟩) k.ex h⟩
  refine wpAny_Assign_stores (thn (he.pe.run pins s σ H (fun v H1 => t v σ H1 D.nx) I ?_) fun u s1 ⟨v, H1, I1, r, q1⟩ => ?_) hs hw
  · refine tM.go he.mono R N q (fun _ z => z) fun w S1 ⟨x, env', ew, hf, q1⟩ g1 ρ1 H1 v1 R1 e1 r1 => ?_
    subst ew
    exact go g1 B0 ρ1 S1 H1 env env' σ x v1 D.nx R1 (N.ext e1) r1 hf fun σ' _ N' => q1 g1 ρ1 H1 σ' R1 e1 N'
  · rw [ha]
    show wpAny _ _ (assignAll u [assign tg X.env]) _ _ _
    have go2 := pg.run pins s1 σ H1 v u D.nx I1 r q1
    unfold assignAll
    first
      | exact wpAny_mono go2 (fun _ s' ⟨σ', H', J, z⟩ => ⟨σ', H', J, z⟩) fun _ _ y => y
      | (refine wpAny_bind (wpAny_mono go2 (fun _ s' ⟨σ', H', J, z⟩ => ?_) fun _ _ y => y); unfold assignAll; exact wpAny_pure ⟨σ', H', J, z⟩)
end RW
/-! RwPlain: plain readings of mirrors, no program in sight. -/
namespace RW
open PySem PySem.Spec PyProof.Rows L2
variable [Tbl]
theorem ite_t {c : Bool} {A B : Prop} (h : c = true) (a : A) : if c = true then A else B := by
  rw [if_pos h]
  exact a
theorem ite_f {c : Bool} {A B : Prop} (h : c = false) (b : B) : if c = true then A else B := by
  rw [h, if_neg Bool.false_ne_true]
  exact b
/-- a comprehension without a test, element by element -/
theorem lc_all {gd : Sto → Prop} {f : MG} {te : MX} {envW : MEnv} {S : Sto} (gS : gd S) (el : D → D) {Qf : List W → Sto → Prop} : ∀ (items : List D) (acc : List W), acc.length + items.length ≤ line →
    (∀ x ∈ items, ∃ env2, f x envW = some env2 ∧ ∀ (Q' : W → Sto → Prop), Q' (.d (el x)) S → te env2 S Q' (fun _ => False)) → Qf (acc ++ (items.map el).map W.d) S → lcM gd f mYes te envW items acc S Qf
  | [], acc, _, _, q => by
    rw [List.map_nil, List.map_nil, List.append_nil] at q
    exact ⟨gS, q⟩
  | x :: xs, acc, hl, h, q => by
    obtain ⟨env2, e1, e2⟩ := h x List.mem_cons_self
    rw [List.length_cons] at hl
    refine ⟨gS, env2, e1, ?_⟩
    show (if (true : Bool) = true then te env2 S (fun w S3 => acc.length < line ∧ lcM gd f mYes te envW xs (acc ++ [w]) S3 Qf) (fun _ => False) else lcM gd f mYes te envW xs acc S Qf)
    rw [if_pos rfl]
    refine e2 _ ⟨by omega, lc_all gS el xs (acc ++ [.d (el x)]) (by rw [List.length_append]; show acc.length + 1 + xs.length ≤ line; omega) (fun y hy => h y (List.mem_cons_of_mem _ hy)) ?_⟩
    rw [List.append_assoc]
    exact q
theorem datas_map : ∀ xs : List D, datas (xs.map W.d) = some xs
  | [] => rfl
  | x :: xs => by
    show (datas (xs.map W.d)).map (x :: ·) = some (x :: xs)
    rw [datas_map xs]
    rfl
/-- [el for x in items], its elements plain -/
theorem lc_plain {gd : Sto → Prop} {f : MG} {te : MX} {envW : MEnv} {S : Sto} {P : List D → Sto → Prop} (gS : gd S) (el : D → D) (items : List D) (hl : items.length ≤ line)
    (h : ∀ x ∈ items, ∃ env2, f x envW = some env2 ∧ ∀ (Q' : W → Sto → Prop), Q' (.d (el x)) S → te env2 S Q' (fun _ => False)) (q : P (items.map el) S) : lcM gd f mYes te envW items [] S (fun ws S2 => ∃ xs, datas ws = some xs ∧ P xs S2) :=
  lc_all gS el items [] (by simpa using hl) h ⟨items.map el, by rw [List.nil_append]; exact datas_map _, q⟩
theorem blsD_map (p : D → Bool) : ∀ xs : List D, blsD (xs.map fun x => .bl (p x)) = some (xs.map p)
  | [] => rfl
  | x :: xs => by
    show (blsD (xs.map fun x => .bl (p x))).map (p x :: ·) = _
    rw [blsD_map p xs]
    rfl
theorem intsD_map : ∀ ns : List Int, intsD (ns.map D.int) = some ns
  | [] => rfl
  | x :: xs => by
    show (intsD (xs.map D.int)).map (x :: ·) = _
    rw [intsD_map xs]
    rfl
theorem eqD_int (i j : Int) : eqD (.int i) (.int j) = (i == j) := rfl
theorem cEq_int (i j : Int) : cEq (.int i) (.int j) := ⟨_, _, rfl, rfl, rfl, rfl⟩
theorem atI_pos {xs : List D} {i : Int} (h0 : 0 ≤ i) (h1 : i < xs.length) : atI xs i = some (xs.getD i.toNat .non) := by
  unfold atI ixN
  rw [if_pos h0, if_pos h1]
  show xs[i.toNat]? = _
  rw [List.getD_eq_getElem?_getD, List.getElem?_eq_getElem (by omega)]
  rfl
/-- a window: place by place -/
def winD (G : Int → D) (lo : Int) (n : Nat) : List D := (List.range n).map fun i => G (lo + (i : Nat))
def elI (G : Int → D) (x : D) : D := match x with
  | .int s => G s
  | _ => .non
theorem map_range (G : Int → D) (lo : Int) (n : Nat) : (rangeD lo n).map (elI G) = winD G lo n := by
  unfold rangeD winD
  rw [List.map_map]
  rfl
theorem mem_range {lo : Int} {n : Nat} {x : D} (h : x ∈ rangeD lo n) : ∃ s : Int, x = .int s ∧ lo ≤ s ∧ s < lo + n := by
  unfold rangeD at h
  obtain ⟨i, hi, rfl⟩ := List.mem_map.mp h
  have := List.mem_range.mp hi
  exact ⟨_, rfl, by omega, by omega⟩
theorem range_len (lo : Int) (n : Nat) : (rangeD lo n).length = n := by simp [rangeD]
theorem loop_inv {gd : Sto → Prop} {step : D → MS} {K : MEnds} (I : List D → MEnv → Sto → Prop) (hg : ∀ S, gd S) (hs : ∀ x xs env S, I (x :: xs) env S → ∀ N : MEnv → Sto → Prop, (∀ env S, I xs env S → N env S) → step x ⟨N, K.rt, K.nx, N, K.ex⟩ env S)
    (hn : ∀ env S, I [] env S → K.nx env S) : ∀ (xs : List D) (env : MEnv) (S : Sto), I xs env S → loopM gd step K xs env S
  | [], env, S, h => ⟨hg S, hn _ _ h⟩
  | x :: xs, env, S, h => ⟨hg S, hs x xs env S h _ fun env S h => loop_inv I hg hs hn xs env S h⟩
theorem eqD_str (x : Str) : eqD (.str x) (.str x) = true := by
  rw [eqD_of (p := .str x) (q := .str x) rfl rfl]
  simp [PyData.eqv]
theorem mCl.mk {m : MX} {env : MEnv} {S : Sto} {Q : W → Sto → Prop} {E : D → Prop} (h : m env S Q E) : mCl m env S Q E := ⟨Q, E, h, fun _ _ z => z, fun _ z => z⟩
theorem cEq_str {x : Str} (h : PyData.strOk x = true) : cEq (.str x) (.str x) := by
  have : SeqAt.shaped (.str x) = true := by simp only [SeqAt.shaped, PyData.canLay0, PyData.depth, h]; rfl
  exact ⟨_, _, rfl, rfl, this, this⟩
/-- a comprehension with a test, element by element -/
theorem lc_sel {gd : Sto → Prop} {f : MG} {tt : MT} {te : MX} {envW : MEnv} {S : Sto} (gS : gd S) (p : D → Bool) (el : D → D) {Qf : List W → Sto → Prop} : ∀ (items : List D) (acc : List W), acc.length + items.length ≤ line →
    (∀ x ∈ items, ∃ env2, f x envW = some env2 ∧ (∀ (Q' : Bool → Sto → Prop), Q' (p x) S → tt env2 S Q' (fun _ => False)) ∧ (p x = true → ∀ (Q' : W → Sto → Prop), Q' (.d (el x)) S → te env2 S Q' (fun _ => False))) →
    Qf (acc ++ ((items.filter p).map el).map W.d) S → lcM gd f tt te envW items acc S Qf
  | [], acc, _, _, q => by
    rw [List.filter_nil, List.map_nil, List.map_nil, List.append_nil] at q
    exact ⟨gS, q⟩
  | x :: xs, acc, hl, h, q => by
    obtain ⟨env2, e1, e2, e3⟩ := h x List.mem_cons_self
    rw [List.length_cons] at hl
    refine ⟨gS, env2, e1, e2 _ ?_⟩
    by_cases hp : p x = true
    · rw [if_pos hp]
      rw [List.filter_cons_of_pos hp] at q
      refine e3 hp _ ⟨by omega, lc_sel gS p el xs (acc ++ [.d (el x)]) (by rw [List.length_append]; show acc.length + 1 + xs.length ≤ line; omega) (fun y hy => h y (List.mem_cons_of_mem _ hy)) ?_⟩
      rw [List.append_assoc]
      exact q
    · rw [if_neg hp]
      rw [List.filter_cons_of_neg hp] at q
      exact lc_sel gS p el xs acc (by omega) (fun y hy => h y (List.mem_cons_of_mem _ hy)) q
theorem lc_selp {gd : Sto → Prop} {f : MG} {tt : MT} {te : MX} {envW : MEnv} {S : Sto} {P : List D → Sto → Prop} (gS : gd S) (p : D → Bool) (el : D → D) (items : List D) (hl : items.length ≤ line)
    (h : ∀ x ∈ items, ∃ env2, f x envW = some env2 ∧ (∀ (Q' : Bool → Sto → Prop), Q' (p x) S → tt env2 S Q' (fun _ => False)) ∧ (p x = true → ∀ (Q' : W → Sto → Prop), Q' (.d (el x)) S → te env2 S Q' (fun _ => False))) (q : P ((items.filter p).map el) S) :
    lcM gd f tt te envW items [] S (fun ws S2 => ∃ xs, datas ws = some xs ∧ P xs S2) :=
  lc_sel gS p el items [] (by simpa using hl) h ⟨(items.filter p).map el, by rw [List.nil_append]; exact datas_map _, q⟩
theorem loop_at {gd : Sto → Prop} {step : D → MS} {K : MEnds} (I : List D → MEnv → Sto → Prop) (hs : ∀ x xs env S, I (x :: xs) env S → gd S ∧ ∀ N : MEnv → Sto → Prop, (∀ env S, I xs env S → N env S) → step x ⟨N, K.rt, K.nx, N, K.ex⟩ env S)
    (hn : ∀ env S, I [] env S → gd S ∧ K.nx env S) : ∀ (xs : List D) (env : MEnv) (S : Sto), I xs env S → loopM gd step K xs env S
  | [], env, S, h => hn _ _ h
  | x :: xs, env, S, h => ⟨(hs x xs env S h).1, (hs x xs env S h).2 _ fun env S h => loop_at I hs hn xs env S h⟩
end RW
/-! RwIfT: a test that is `a if t else b`. -/
namespace RW
open PySem PySem.Spec PyProof.Rows L2
variable [Tbl]
section
variable {E : XK} {X : Cx} {t a b : Expr} {tt ta tb : MT} {pos : Pos}
theorem pt_ifexp {t1 t2 t3 : TT} (h1 : PT X t t1) (h2 : PT X a t2) (h3 : PT X b t3) : PT X (.IfExp t a b pos) (fun σ H Q => t1 σ H fun c H1 => if c = true then t2 σ H1 Q else t3 σ H1 Q) := by
  refine ⟨fun pins s σ H Q I h => ?_⟩
  have e : PySem.isTrue (.IfExp t a b pos) X.env (eval (.IfExp t a b pos) X.env) = (do if ← PySem.isTrue t X.env (eval t X.env) then PySem.isTrue a X.env (eval a X.env) else PySem.isTrue b X.env (eval b X.env)) := by
    rw [PySem.isTrue]
  rw [e]
  refine wpAny_bind (thn (h1.run pins s σ H _ I h) fun c s1 ⟨H1, I1, q1⟩ => ?_)
  cases c with
  | true =>
    rw [if_pos rfl] at q1
    exact h2.run pins s1 σ H1 Q I1 q1
  | false =>
    rw [if_neg Bool.false_ne_true] at q1
    exact h3.run pins s1 σ H1 Q I1 q1
def tIf' (tt ta tb : MT) : MT := fun env S Q E => tt env S (fun k S1 => if k = true then ta env S1 Q E else tb env S1 Q E) E
theorem mt_if (h1 : MTJ E X t tt) (h2 : MTJ E X a ta) (h3 : MTJ E X b tb) : MTJ E X (.IfExp t a b pos) (tIf' tt ta tb) := by
  refine ⟨PT.imp (pt_ifexp h1.pt h2.pt h3.pt) fun σ H Q ⟨g, B0, ρ, env, S, R, N, q⟩ => ?_, fun env S Q Q' E E' k hx q => h1.mono _ _ _ _ _ _ (fun c S1 z => ?_) hx q⟩
  · refine tMT.go h1.mono R N q (fun _ z => z) fun c S1 q1 g1 ρ1 H1 R1 e1 => ?_
    cases c with
    | true =>
      rw [if_pos rfl] at q1 ⊢
      exact tMT.go h2.mono R1 (N.ext e1) q1 (fun x z => z.ext e1) fun c2 S2 q2 g2 ρ2 H2 R2 e2 => q2 g2 ρ2 H2 R2 (e1.trans e2)
    | false =>
      rw [if_neg Bool.false_ne_true] at q1 ⊢
      exact tMT.go h3.mono R1 (N.ext e1) q1 (fun x z => z.ext e1) fun c2 S2 q2 g2 ρ2 H2 R2 e2 => q2 g2 ρ2 H2 R2 (e1.trans e2)
  · cases c with
    | true =>
      rw [if_pos rfl] at z ⊢
      exact h2.mono _ _ _ _ _ _ k hx z
    | false =>
      rw [if_neg Bool.false_ne_true] at z ⊢
      exact h3.mono _ _ _ _ _ _ k hx z
end
section
variable {E : XK} {X : Cx} {iter elt : Expr} {ifs : List Expr} {scope : Scope} {own : List (Str × Nat)} {mi : MI} {fs : List MG} {t : TGs} {tt : MT} {te : MX} {es : List Expr} {k : Nat} {pos : Pos}
/-- a comprehension over pairs taken apart -/
theorem lcj_tup {n : Nat} (hi : MIJ E X (.Tuple es k pos) iter mi) (ok : BlkOk X.N X.env.scope scope own) (hc : X.calm = true) (hg : ∀ (s : Shared) (H : Hp) (C : Addr) (cl : List (Str × Addr)) (fp : List Addr), MGTs (X.blk s H scope (compEnvC scope cl C X.env) fp) (own.map (·.2)) es fs t)
    (ht : ∀ (s : Shared) (H : Hp) (C : Addr) (cl : List (Str × Addr)) (fp : List Addr), MTsJ E0' (X.blk s H scope (compEnvC scope cl C X.env) fp) ifs tt)
    (he : ∀ (s : Shared) (H : Hp) (C : Addr) (cl : List (Str × Addr)) (fp : List Addr), ME E0' (X.blk s H scope (compEnvC scope cl C X.env) fp) elt te) (hl : fs.length = n := by rfl)
    (hn : ∀ (s : Shared) (H : Hp) (C : Addr) (cl : List (Str × Addr)) (fp : List Addr), (assignEach es (X.blk s H scope (compEnvC scope cl C X.env) fp).env).length = n := by intro _ _ _ _ _; rfl)
    (hst : ∀ (s : Shared) (H : Hp) (C : Addr) (cl : List (Str × Addr)) (fp : List Addr), (assignEach es (X.blk s H scope (compEnvC scope cl C X.env) fp).env).findIdx? (·.1) = none := by intro _ _ _ _ _; rfl) : LcJ E X elt (.Tuple es k pos) iter ifs scope own mi (gT fs) tt te :=
  lcj_tgt (t := gTup X.K n t) hi ok (fun s H C cl fp => mgt_tup (X := X.blk s H scope (compEnvC scope cl C X.env) fp) hc (hg s H C cl fp) hl (hn s H C cl fp) (hst s H C cl fp)) ht he
end
end RW
/-! RwReprN: repr of a list or tuple, or of None. -/
namespace RW
open PySem PySem.Spec PyProof.Rows L2
variable [Tbl]
section
variable {X : Cx}
theorem cr_reprNon : CallR X (.builtin "repr") (fun xs H Q => xs = [.non] ∧ Q (.str (Str.ofString "None")) H) := by
  intro pins s σ H xs us Q I r h
  obtain ⟨rfl, q⟩ := h
  obtain ⟨u, rfl, ru⟩ := vals1 r
  cases (show u = Value.none from ru)
  exact PySem.P.repr_of_none ⟨.str _, H, I.tok _, ⟨_, rfl⟩, q⟩
def cReprN : List D → Prop := fun a => c1 cRepr a ∨ c1 (fun d => d = .non) a
theorem shown_non : shownD .non = Str.ofString "None" := by
  unfold shownD
  rfl
theorem b_reprN (hgd : X.A.guards = some []) (hu : X.A.units + 65 < cLine) : CallD X (.builtin "repr") cReprN (f1 fun d => .str (shownD d)) :=
  CallD.or (b_repr hgd hu) (callD1 cr_reprNon fun g B0 ρ S H d v Q R rv e k => by
    subst e
    have r2 := rv.toRV fun _ => by simp
    cases r2
    refine ⟨rfl, ?_⟩
    have := k H _ R Ext.refl (.str _)
    rw [shown_non] at this
    exact this)
end
end RW
/-! RwReprI: repr of a list or tuple, of None, of ints and truths. -/
namespace RW
open PySem PySem.Spec PyProof.Rows L2
variable [Tbl]
section
variable {X : Cx}
theorem cr_reprInt : CallR X (.builtin "repr") (fun xs H Q => ∃ i : Int, xs = [.int i] ∧ i.natAbs.log2 < 1920 ∧ Q (.str (Str.ofString (toString i))) H) := by
  intro pins s σ H xs us Q I r h
  obtain ⟨i, rfl, hi, q⟩ := h
  obtain ⟨u, rfl, ru⟩ := vals1 r
  obtain ⟨t, rfl⟩ := (show ∃ t, u = Value.int i t from ru)
  exact PySem.P.repr_of_int hi ⟨.str _, H, I.tok _, ⟨_, rfl⟩, q⟩
theorem cr_reprBl : CallR X (.builtin "repr") (fun xs H Q => ∃ b : Bool, xs = [.bl b] ∧ Q (.str ((if b then "True" else "False" : Str))) H) := by
  intro pins s σ H xs us Q I r h
  obtain ⟨b, rfl, q⟩ := h
  obtain ⟨u, rfl, ru⟩ := vals1 r
  cases (show u = Value.bool b from ru)
  exact PySem.P.repr_of_bool ⟨.str _, H, I.tok _, ⟨_, rfl⟩, q⟩
def cReprI : List D → Prop := fun a => cReprN a ∨ (c1 (fun d => ∃ i : Int, d = .int i ∧ i.natAbs.log2 < 1920) a ∨ c1 (fun d => ∃ b, d = .bl b) a)
theorem shown_int (i : Int) : shownD (.int i) = Str.ofString (toString i) := by
  unfold shownD
  rfl
theorem shown_bl (b : Bool) : shownD (.bl b) = (if b then "True" else "False" : Str) := by
  unfold shownD
  rfl
theorem b_reprI (hgd : X.A.guards = some []) (hu : X.A.units + 65 < cLine) : CallD X (.builtin "repr") cReprI (f1 fun d => .str (shownD d)) :=
  CallD.or (b_reprN hgd hu) (CallD.or (callD1 cr_reprInt fun g B0 ρ S H d v Q R rv e k => by
    obtain ⟨i, rfl, hi⟩ := e
    have r2 := rv.toRV fun _ => by simp
    cases r2
    refine ⟨i, rfl, hi, ?_⟩
    have := k H _ R Ext.refl (.str _)
    rw [shown_int] at this
    exact this) (callD1 cr_reprBl fun g B0 ρ S H d v Q R rv e k => by
    obtain ⟨b, rfl⟩ := e
    have r2 := rv.toRV fun _ => by simp
    cases r2
    refine ⟨b, rfl, ?_⟩
    have := k H _ R Ext.refl (.str _)
    rw [shown_bl] at this
    exact this))
end
end RW
/-! RwWp: loops whose ends are a letter. -/
namespace RW
open PySem PySem.Spec PyProof.Rows L2
variable [Tbl]
theorem loop_k {gd : Sto → Prop} {step : D → MS} {K : MEnds} (I : List D → MEnv → Sto → Prop) (hg : ∀ S, gd S)
    (hs : ∀ x xs env S, I (x :: xs) env S → ∀ K' : MEnds, (∀ env S, I xs env S → K'.nx env S) → (∀ env S, I xs env S → K'.ct env S) → K'.rt = K.rt → K'.bk = K.nx → K'.ex = K.ex → step x K' env S)
    (hn : ∀ env S, I [] env S → K.nx env S) (xs : List D) (env : MEnv) (S : Sto) (h : I xs env S) : loopM gd step K xs env S :=
  loop_inv I hg (fun x xs env S h N hN => hs x xs env S h ⟨N, K.rt, K.nx, N, K.ex⟩ hN hN rfl rfl rfl) hn xs env S h
/-- what holds ahead of each turn of a loop over things of a list -/
theorem loop_all {gd : Sto → Prop} {step : D → MS} {K : MEnds} (I : MEnv → Sto → Prop) (hg : ∀ S, gd S) (xs : List D)
    (hs : ∀ x ∈ xs, ∀ env S, I env S → ∀ K' : MEnds, (∀ env S, I env S → K'.nx env S) → (∀ env S, I env S → K'.ct env S) → K'.rt = K.rt → K'.bk = K.nx → K'.ex = K.ex → step x K' env S)
    (hn : ∀ env S, I env S → K.nx env S) (env : MEnv) (S : Sto) (h : I env S) : loopM gd step K xs env S :=
  loop_k (fun rest e T => (∀ x ∈ rest, x ∈ xs) ∧ I e T) hg (fun x rest e T hI K' n c r b x' => hs x (hI.1 x List.mem_cons_self) e T hI.2 K' (fun e T h => n e T ⟨fun y hy => hI.1 y (List.mem_cons_of_mem _ hy), h⟩) (fun e T h => c e T ⟨fun y hy => hI.1 y (List.mem_cons_of_mem _ hy), h⟩) r b x')
    (fun e T h => hn e T h.2) xs env S ⟨fun _ h => h, h⟩
/-- [.. for x in items if wrong]: nothing is wrong -/
theorem lc_no {gd : Sto → Prop} {f : MG} {tt : MT} {te : MX} {envW : MEnv} {S : Sto} {P : List D → Sto → Prop} (gS : gd S) (items : List D) (hl : items.length ≤ line)
    (h : ∀ x ∈ items, ∃ env2, f x envW = some env2 ∧ ∀ Q' : Bool → Sto → Prop, Q' false S → tt env2 S Q' (fun _ => False)) (q : P [] S) : lcM gd f tt te envW items [] S (fun ws S2 => ∃ xs, datas ws = some xs ∧ P xs S2) := by
  refine lc_selp gS (fun _ => false) _root_.id items hl (fun x hx => ?_) ?_
  · obtain ⟨env2, h1, h2⟩ := h x hx
    exact ⟨env2, h1, h2, fun z => absurd z Bool.false_ne_true⟩
  · have e : items.filter (fun _ => false) = [] := List.filter_eq_nil_iff.mpr fun _ _ z => absurd z Bool.false_ne_true
    rw [e]
    exact q
/-- a comprehension over things that stand for a list's -/
theorem lc_gen' {α : Type} {gd : Sto → Prop} {gt : MG} {tt : MT} {te : MX} {envW : MEnv} {S : Sto} (gS : gd S) (f : α → D) (p : α → Bool) (el : α → D) {Qf : List W → Sto → Prop} : ∀ (l : List α) (acc : List W), acc.length + l.length ≤ line →
    (∀ a ∈ l, ∃ env2, gt (f a) envW = some env2 ∧ (∀ (Q' : Bool → Sto → Prop), Q' (p a) S → tt env2 S Q' (fun _ => False)) ∧ (p a = true → ∀ (Q' : W → Sto → Prop), Q' (.d (el a)) S → te env2 S Q' (fun _ => False))) →
    Qf (acc ++ ((l.filter p).map el).map W.d) S → lcM gd gt tt te envW (l.map f) acc S Qf
  | [], acc, _, _, q => by
    rw [List.filter_nil, List.map_nil, List.map_nil, List.append_nil] at q
    exact ⟨gS, q⟩
  | x :: xs, acc, hl, h, q => by
    obtain ⟨env2, e1, e2, e3⟩ := h x List.mem_cons_self
    rw [List.length_cons] at hl
    refine ⟨gS, env2, e1, e2 _ ?_⟩
    by_cases hp : p x = true
    · rw [if_pos hp]
      rw [List.filter_cons_of_pos hp] at q
      refine e3 hp _ ⟨by omega, lc_gen' gS f p el xs (acc ++ [.d (el x)]) (by rw [List.length_append]; show acc.length + 1 + xs.length ≤ line; omega) (fun y hy => h y (List.mem_cons_of_mem _ hy)) ?_⟩
      rw [List.append_assoc]
      exact q
    · rw [if_neg hp]
      rw [List.filter_cons_of_neg hp] at q
      exact lc_gen' gS f p el xs acc (by omega) (fun y hy => h y (List.mem_cons_of_mem _ hy)) q
theorem lc_gen {α : Type} {gd : Sto → Prop} {gt : MG} {tt : MT} {te : MX} {envW : MEnv} {S : Sto} {P : List D → Sto → Prop} (gS : gd S) (f : α → D) (p : α → Bool) (el : α → D) (l : List α) (hl : l.length ≤ line)
    (h : ∀ a ∈ l, ∃ env2, gt (f a) envW = some env2 ∧ (∀ (Q' : Bool → Sto → Prop), Q' (p a) S → tt env2 S Q' (fun _ => False)) ∧ (p a = true → ∀ (Q' : W → Sto → Prop), Q' (.d (el a)) S → te env2 S Q' (fun _ => False))) (q : P ((l.filter p).map el) S) :
    lcM gd gt tt te envW (l.map f) [] S (fun ws S2 => ∃ xs, datas ws = some xs ∧ P xs S2) :=
  lc_gen' gS f p el l [] (by simpa using hl) h ⟨(l.filter p).map el, by rw [List.nil_append]; exact datas_map _, q⟩
/-- without a test -/
theorem lc_ev {α : Type} {gd : Sto → Prop} {gt : MG} {te : MX} {envW : MEnv} {S : Sto} {P : List D → Sto → Prop} (gS : gd S) (f : α → D) (el : α → D) (l : List α) (hl : l.length ≤ line)
    (h : ∀ a ∈ l, ∃ env2, gt (f a) envW = some env2 ∧ ∀ (Q' : W → Sto → Prop), Q' (.d (el a)) S → te env2 S Q' (fun _ => False)) (q : P (l.map el) S) :
    lcM gd gt mYes te envW (l.map f) [] S (fun ws S2 => ∃ xs, datas ws = some xs ∧ P xs S2) := by
  refine lc_gen gS f (fun _ => true) el l hl (fun a ha => ?_) ?_
  · obtain ⟨env2, h1, h2⟩ := h a ha
    exact ⟨env2, h1, fun Q' q => q, fun _ => h2⟩
  · rw [List.filter_eq_self.mpr fun _ _ => rfl]
    exact q
/-- a loop over things that stand for a list's -/
theorem loop_gen {α : Type} {gd : Sto → Prop} {step : D → MS} {K : MEnds} (f : α → D) (I : List α → MEnv → Sto → Prop) (hg : ∀ S, gd S) : ∀ (l pre : List α),
    (∀ done a rest, pre ++ l = done ++ a :: rest → ∀ env S, I done env S → ∀ K' : MEnds, (∀ env S, I (done ++ [a]) env S → K'.nx env S) → (∀ env S, I (done ++ [a]) env S → K'.ct env S) → K'.rt = K.rt → K'.bk = K.nx → K'.ex = K.ex → step (f a) K' env S) →
    (∀ env S, I (pre ++ l) env S → K.nx env S) → ∀ (env : MEnv) (S : Sto), I pre env S → loopM gd step K (l.map f) env S
  | [], pre, hs, hn, env, S, h => ⟨hg S, hn _ _ (by rw [List.append_nil]; exact h)⟩
  | a :: l, pre, hs, hn, env, S, h => by
    have go := fun env S h => loop_gen (step := step) (K := K) f I hg l (pre ++ [a]) (fun done b rest e => hs done b rest (by rw [← e, List.append_assoc]; rfl)) (fun env S z => hn env S (by rw [List.append_assoc] at z; exact z)) env S h
    exact ⟨hg S, hs pre a l rfl env S h ⟨fun e T => loopM gd step K (l.map f) e T, K.rt, K.nx, fun e T => loopM gd step K (l.map f) e T, K.ex⟩ go go rfl rfl rfl⟩
/-- for i in range(k) -/
theorem loop_rg {gd : Sto → Prop} {step : D → MS} {K : MEnds} (k : Nat) (I : Nat → MEnv → Sto → Prop) (hg : ∀ S, gd S)
    (hs : ∀ j, j < k → ∀ env S, I j env S → ∀ K' : MEnds, (∀ env S, I (j + 1) env S → K'.nx env S) → (∀ env S, I (j + 1) env S → K'.ct env S) → K'.rt = K.rt → K'.bk = K.nx → K'.ex = K.ex → step (.int j) K' env S)
    (hn : ∀ env S, I k env S → K.nx env S) (env : MEnv) (S : Sto) (h : I 0 env S) : loopM gd step K (rangeD 0 k) env S := by
  have e : rangeD 0 k = (List.range k).map fun (i : Nat) => D.int i := by
    unfold rangeD
    exact List.map_congr_left fun i _ => by rw [Int.zero_add]
  rw [e]
  refine loop_gen (fun (i : Nat) => D.int i) (fun done e T => I done.length e T) hg (List.range k) [] (fun done a rest hd env S hI K' n c r b x => ?_) (fun env S z => hn env S (by simpa using z)) env S h
  have hk : done.length < k := by
    have := congrArg List.length hd
    simp at this
    omega
  have ha : a = done.length := by
    have h1 : ([] ++ List.range k)[done.length]? = some a := by rw [hd]; simp
    rw [List.nil_append, List.getElem?_range hk] at h1
    exact (Option.some.inj h1).symm
  subst ha
  exact hs done.length hk env S hI K' (fun e T z => n e T (by simpa using z)) (fun e T z => c e T (by simpa using z)) r b x
/-- a loop over a function of 0 .. k - 1 -/
theorem loop_fn {gd : Sto → Prop} {step : D → MS} {K : MEnds} (k : Nat) (f : Nat → D) (I : Nat → MEnv → Sto → Prop) (hg : ∀ S, gd S)
    (hs : ∀ j, j < k → ∀ env S, I j env S → ∀ K' : MEnds, (∀ env S, I (j + 1) env S → K'.nx env S) → (∀ env S, I (j + 1) env S → K'.ct env S) → K'.rt = K.rt → K'.bk = K.nx → K'.ex = K.ex → step (f j) K' env S)
    (hn : ∀ env S, I k env S → K.nx env S) (env : MEnv) (S : Sto) (h : I 0 env S) : loopM gd step K ((List.range k).map f) env S := by
  refine loop_gen f (fun done e T => I done.length e T) hg (List.range k) [] (fun done a rest hd env S hI K' n c r b x => ?_) (fun env S z => hn env S (by simpa using z)) env S h
  have hk : done.length < k := by
    have := congrArg List.length hd
    simp at this
    omega
  have ha : a = done.length := by
    have h1 : ([] ++ List.range k)[done.length]? = some a := by rw [hd]; simp
    rw [List.nil_append, List.getElem?_range hk] at h1
    exact (Option.some.inj h1).symm
  subst ha
  exact hs done.length hk env S hI K' (fun e T z => n e T (by simpa using z)) (fun e T z => c e T (by simpa using z)) r b x
/-- a statement ahead of others: what holds behind it -/
theorem ms_seq {a b : MS} {K : MEnds} {env : MEnv} {S : Sto} (I : MEnv → Sto → Prop) (h : ∀ K' : MEnds, (∀ e T, I e T → K'.nx e T) → K'.rt = K.rt → K'.bk = K.bk → K'.ct = K.ct → K'.ex = K.ex → a K' env S) (hn : ∀ e T, I e T → b K e T) : sSeq a b K env S :=
  h { K with nx := b K } hn rfl rfl rfl rfl
theorem nx_go {K : MEnds} {env : MEnv} {S : Sto} (h : K.nx env S) : sNext K env S := h
theorem eqD_intS (i : Int) : eqD (.int i) (.int i) = true := by
  rw [eqD_int]
  simp
/-- two ways that come together again -/
theorem if_join {k : Bool} {a b : MS} {K : MEnds} {env : MEnv} {S : Sto} (I : MEnv → Sto → Prop) (ha : k = true → ∀ K' : MEnds, (∀ e T, I e T → K'.nx e T) → K'.rt = K.rt → K'.bk = K.bk → K'.ct = K.ct → K'.ex = K.ex → a K' env S)
    (hb : k = false → ∀ K' : MEnds, (∀ e T, I e T → K'.nx e T) → K'.rt = K.rt → K'.bk = K.bk → K'.ct = K.ct → K'.ex = K.ex → b K' env S) (hn : ∀ e T, I e T → K.nx e T) : if k = true then a K env S else b K env S := by
  cases k with
  | true =>
    rw [if_pos rfl]
    exact ha rfl K hn rfl rfl rfl rfl
  | false =>
    rw [if_neg Bool.false_ne_true]
    exact hb rfl K hn rfl rfl rfl rfl
end RW
/-! RwDw: dicts of the store: empty ones, d[k], k in d, d.get, d[k] = v; keys int, str or tuples of such. -/
namespace RW
open PySem PySem.Spec PyProof.Rows L2
variable [Tbl]
def valW {κ : Type} [DecidableEq κ] (kvs : List (κ × W)) (k : κ) : Option W := (kvs.find? fun p => decide (p.1 = k)).map (·.2)
def putDW {κ : Type} [DecidableEq κ] (kvs : List (κ × W)) (k : κ) (w : W) : List (κ × W) :=
  if (kvs.any fun p => decide (p.1 = k)) = true then kvs.map (fun p => if p.1 = k then (p.1, w) else p) else kvs ++ [(k, w)]
section
variable {κ : Type} [DecidableEq κ] {F : W → V → Prop}
abbrev PairsW (F : W → V → Prop) : List (κ × W) → List (κ × V) → Prop := Paired fun a b => a.1 = b.1 ∧ F a.2 b.2
theorem pairs_val {kvs : List (κ × W)} {vs : List (κ × V)} (p : PairsW F kvs vs) (k : κ) : (valW kvs k = none ∧ valV vs k = none) ∨ ∃ w v, valW kvs k = some w ∧ valV vs k = some v ∧ F w v := by
  induction p with
  | nil => exact .inl ⟨rfl, rfl⟩
  | @cons x y xs ys a t ih =>
    by_cases h : x.1 = k
    · refine .inr ⟨x.2, y.2, ?_, valV_pos (a.1 ▸ h), a.2⟩
      unfold valW
      rw [List.find?_cons_of_pos (by simpa using h)]
      rfl
    · have e : valW (x :: xs) k = valW xs k := by
        unfold valW
        rw [List.find?_cons_of_neg (by simpa using h)]
      rw [e, valV_neg (fun z => h (a.1.trans z))]
      exact ih
theorem pairs_put {k : κ} {w : W} {v : V} (h : F w v) {kvs : List (κ × W)} {vs : List (κ × V)} (p : PairsW F kvs vs) : PairsW F (putDW kvs k w) (putK vs k v) := by
  have ea : (kvs.any fun p => decide (p.1 = k)) = vs.any fun p => decide (p.1 = k) := by
    induction p with
    | nil => rfl
    | cons a t ih => rw [List.any_cons, List.any_cons, ih, a.1]
  unfold putDW putK
  rw [ea]
  split
  · clear ea
    rename_i hh
    clear hh
    induction p with
    | nil => exact .nil
    | @cons x y xs ys a t ih =>
      refine .cons ?_ ih
      show (if x.1 = k then (x.1, w) else x).1 = (if y.1 = k then (y.1, v) else y).1 ∧ F (if x.1 = k then (x.1, w) else x).2 (if y.1 = k then (y.1, v) else y).2
      rw [← a.1]
      split
      · exact ⟨rfl, h⟩
      · exact a
  · exact Paired.snoc p ⟨rfl, h⟩
end
/-- what a dict holds at a key: data, or of the store -/
def dOf (S : Sto) (w1 w2 : W) (o : Option W) : Prop :=
  (∃ xs y d, w1 = .d (.dic xs) ∧ w2 = .d y ∧ dAt xs y (some d) ∧ o = some (.d d)) ∨
  (∃ (j : Nat) (kvs : List (Key × W)) (k : Key), w1 = .ref j ∧ S[j]? = some (.dK kvs) ∧ w2 = .d (kD k) ∧ o = valW kvs k) ∨
  (∃ (j : Nat) (kvs : List (List Key × W)) (k : List Key), w1 = .ref j ∧ S[j]? = some (.dT kvs) ∧ w2 = .d (.tup (k.map kD)) ∧ o = valW kvs k) ∨
  (∃ (xs : List (D × D)) (k : Key), w1 = .d (.dic xs) ∧ w2 = .d (kD k) ∧ dLookK xs k = none ∧ (∃ p ∈ xs, ∃ k', p.1 = kD k') ∧ o = none) ∨
  (∃ (xs : List (D × D)) (k : List Key), w1 = .d (.dic xs) ∧ w2 = .d (.tup (k.map kD)) ∧ dLookT xs k = none ∧ (∃ p ∈ xs, ∃ k' : List Key, p.1 = .tup (k'.map kD)) ∧ o = none)
section
variable {C : Cxt} {g g' g1 : Gh} {B0 B' : Addr → Prop} {ρ ρ' ρ1 : List Addr} {S S' S1 : Sto} {H H' H1 : Hp} {env : MEnv} {σ : L2.St}
def OptR (F : W → V → Prop) : Option W → Option V → Prop
  | none, none => True
  | some w, some v => F w v
  | _, _ => False
theorem kD_ne {k : Key} {ks : List Key} : ¬ kD k = .tup (ks.map kD) := by cases k <;> intro h <;> cases h
theorem dOf_get {w1 w2 : W} {o : Option W} {v u : V} (R : Rel C g B0 ρ S H) (rx : RW C g (Bad g B0 ρ S) ρ H w1 v) (ry : RW C g (Bad g B0 ρ S) ρ H w2 u) (h : dOf S w1 w2 o) :
    ∃ a r, v = .ref a ∧ IsD H a ∧ DGet H a u r ∧ OptR (RW C g (Bad g B0 ρ S) ρ H) o r := by
  rcases h with ⟨xs, y, d, rfl, rfl, hd, rfl⟩ | ⟨j, kvs, k, rfl, hj, rfl, rfl⟩ | ⟨j, kvs, k, rfl, hj, rfl, rfl⟩ | ⟨xs, k, rfl, rfl, hn, ⟨p, hp, k', ek⟩, rfl⟩ | ⟨xs, k, rfl, rfl, hn, ⟨p, hp, k', ek⟩, rfl⟩
  · obtain ⟨a, w, e, hg, r⟩ := dAt_get hd rx ry
    refine ⟨a, some w, e, ?_, hg, r⟩
    rcases hg with ⟨kvs, k, hr, _⟩ | ⟨kvs, k, b, hr, _⟩
    · exact .inl ⟨_, hr⟩
    · exact .inr ⟨_, hr⟩
  · obtain ⟨a, ha, rfl⟩ := rx
    obtain ⟨vs, hv, pr⟩ := R.obj j _ a hj ha
    have eu := rv_kD ry
    subst eu
    refine ⟨a, valV vs k, rfl, .inl ⟨_, .inl hv⟩, .inl ⟨_, k, .inl hv, rfl, rfl⟩, ?_⟩
    rcases pairs_val (F := RW C g (Bad g B0 ρ S) ρ H) pr k with ⟨e1, e2⟩ | ⟨w, z, e1, e2, e3⟩
    · rw [e1, e2]; trivial
    · rw [e1, e2]; exact e3
  · obtain ⟨a, ha, rfl⟩ := rx
    obtain ⟨vs, hv, pr⟩ := R.obj j _ a hj ha
    cases (show RV _ _ _ _ (.tup (k.map kD)) u from ry) with
    | tup hq rs =>
      have eu := rvs_kD rs
      subst eu
      refine ⟨a, valV vs k, rfl, .inr ⟨_, .inl hv⟩, .inr ⟨_, k, _, .inl hv, rfl, hq, rfl⟩, ?_⟩
      rcases pairs_val (F := RW C g (Bad g B0 ρ S) ρ H) pr k with ⟨e1, e2⟩ | ⟨w, z, e1, e2, e3⟩
      · rw [e1, e2]; trivial
      · rw [e1, e2]; exact e3
  · have eu := rv_kD ry
    subst eu
    cases (show RV _ _ _ _ (.dic xs) v from rx) with
    | dicK hk rk => exact ⟨_, none, rfl, .inl ⟨_, .inr ⟨_, hk⟩⟩, .inl ⟨_, k, .inr ⟨_, hk⟩, rfl, ((rk.look (k := k)).2 hn).symm⟩, trivial⟩
    | dicT hk rk =>
      exfalso
      obtain ⟨i, hi⟩ := List.getElem?_of_mem hp
      obtain ⟨k2, _, _, e2⟩ := rk.at_ hi
      exact kD_ne (ek.symm.trans e2)
  · cases (show RV _ _ _ _ (.tup (k.map kD)) u from ry) with
    | tup hq rs =>
      have eu := rvs_kD rs
      subst eu
      cases (show RV _ _ _ _ (.dic xs) v from rx) with
      | dicT hk rk => exact ⟨_, none, rfl, .inr ⟨_, .inr ⟨_, hk⟩⟩, .inr ⟨_, k, _, .inr ⟨_, hk⟩, rfl, hq, ((rk.look (k := k)).2 hn).symm⟩, trivial⟩
      | dicK hk rk =>
        exfalso
        obtain ⟨i, hi⟩ := List.getElem?_of_mem hp
        obtain ⟨k2, _, _, e2⟩ := rk.at_ hi
        exact kD_ne (e2.symm.trans ek)
/-- w is a dict -/
def isDW (S : Sto) (w : W) : Prop := (∃ xs, w = .d (.dic xs)) ∨ ∃ j, w = .ref j ∧ ((∃ kvs, S[j]? = some (.dK kvs)) ∨ ∃ kvs, S[j]? = some (.dT kvs))
theorem isDW_at {w : W} {v : V} (R : Rel C g B0 ρ S H) (r : RW C g (Bad g B0 ρ S) ρ H w v) (h : isDW S w) : ∃ a, v = .ref a ∧ IsD H a := by
  rcases h with ⟨xs, rfl⟩ | ⟨j, rfl, ⟨kvs, hj⟩ | ⟨kvs, hj⟩⟩
  · cases (show RV _ _ _ _ (.dic xs) v from r) with
    | dicK hk rk => exact ⟨_, rfl, .inl ⟨_, .inr ⟨_, hk⟩⟩⟩
    | dicT hk rk => exact ⟨_, rfl, .inr ⟨_, .inr ⟨_, hk⟩⟩⟩
  · obtain ⟨a, ha, rfl⟩ := r
    obtain ⟨vs, hv, _⟩ := R.obj j _ a hj ha
    exact ⟨a, rfl, .inl ⟨_, .inl hv⟩⟩
  · obtain ⟨a, ha, rfl⟩ := r
    obtain ⟨vs, hv, _⟩ := R.obj j _ a hj ha
    exact ⟨a, rfl, .inr ⟨_, .inl hv⟩⟩
/-- a dict of the store with a new value at a key -/
def dPut (S : Sto) (w1 w2 w : W) (S' : Sto) : Prop :=
  (∃ (j : Nat) (kvs : List (Key × W)) (k : Key), w1 = .ref j ∧ S[j]? = some (.dK kvs) ∧ w2 = .d (kD k) ∧ kvs.length < line ∧ S' = S.set j (.dK (putDW kvs k w))) ∨
  (∃ (j : Nat) (kvs : List (List Key × W)) (k : List Key), w1 = .ref j ∧ S[j]? = some (.dT kvs) ∧ w2 = .d (.tup (k.map kD)) ∧ kvs.length < line ∧ S' = S.set j (.dT (putDW kvs k w)))
theorem dPut_at {w1 w2 w : W} {v u z : V} {S' : Sto} (R : Rel C g B0 ρ S H) (rx : RW C g (Bad g B0 ρ S) ρ H w1 v) (ry : RW C g (Bad g B0 ρ S) ρ H w2 u) (rz : RW C g (Bad g B0 ρ S) ρ H w z) (h : dPut S w1 w2 w S') :
    ∃ a H', v = .ref a ∧ DPut H a u z H' ∧ Rel C g B0 ρ S' H' ∧ Ext g B0 ρ S H g ρ S' H' := by
  rcases h with ⟨j, kvs, k, rfl, hj, rfl, hl, rfl⟩ | ⟨j, kvs, k, rfl, hj, rfl, hl, rfl⟩
  · obtain ⟨a, ha, rfl⟩ := rx
    obtain ⟨vs, hv, pr⟩ := R.obj j _ a hj ha
    have eu := rv_kD ry
    subst eu
    have len := Paired.len pr
    have bad : Bad g B0 ρ S a := .inr (.inr ⟨j, _, hj, rfl, ha⟩)
    have pp := pairs_put (k := k) (F := RW C g (Bad g B0 ρ S) ρ H) rz pr
    have u : Up g (Bad g B0 ρ S) H g (Bad g B0 ρ S) (upd H a (.dK (putK vs k z))) := ⟨fun b o e im => by
      rw [upd_ne (show b ≠ a from fun z => by rw [z, hv] at e; cases e; exact im)]; exact e, fun b o e n => ⟨by rw [upd_ne (show b ≠ a from fun z => n (by rw [z]; exact bad))]; exact e, n⟩, .refl⟩
    obtain ⟨R3, e3⟩ := R.write (u := .dK (putK vs k z)) (o := .dK (putDW kvs k w)) hj rfl ha rfl hv (fun z => z) ⟨_, upd_same, Paired.mapP pp fun _ _ q => ⟨q.1, q.2.mono u ⟨[], by simp⟩⟩⟩
    exact ⟨a, _, rfl, DPut.k hv (by rw [← len]; exact line_lt hl), R3, e3⟩
  · obtain ⟨a, ha, rfl⟩ := rx
    obtain ⟨vs, hv, pr⟩ := R.obj j _ a hj ha
    cases (show RV _ _ _ _ (.tup (k.map kD)) u from ry) with
    | tup hq rs =>
      have eu := rvs_kD rs
      subst eu
      have len := Paired.len pr
      have bad : Bad g B0 ρ S a := .inr (.inr ⟨j, _, hj, rfl, ha⟩)
      have pp := pairs_put (k := k) (F := RW C g (Bad g B0 ρ S) ρ H) rz pr
      have u : Up g (Bad g B0 ρ S) H g (Bad g B0 ρ S) (upd H a (.dT (putK vs k z))) := ⟨fun b o e im => by
        rw [upd_ne (show b ≠ a from fun z => by rw [z, hv] at e; cases e; exact im)]; exact e, fun b o e n => ⟨by rw [upd_ne (show b ≠ a from fun z => n (by rw [z]; exact bad))]; exact e, n⟩, .refl⟩
      obtain ⟨R3, e3⟩ := R.write (u := .dT (putK vs k z)) (o := .dT (putDW kvs k w)) hj rfl ha rfl hv (fun z => z) ⟨_, upd_same, Paired.mapP pp fun _ _ q => ⟨q.1, q.2.mono u ⟨[], by simp⟩⟩⟩
      exact ⟨a, _, rfl, DPut.t hv hq (by rw [← len]; exact line_lt hl), R3, e3⟩
end
section
variable {E : XK} {X : Cx} {o i e f : Expr} {md mk mv : MX} {pos apos cpos pos' : Pos}
def mDNewT : MX := fun _ S Q _ => Q (.ref S.length) (S ++ [.dT []])
def mDNewK : MX := fun _ S Q _ => Q (.ref S.length) (S ++ [.dK []])
theorem me_dnewT : ME E X (.Dict [] [] pos) mDNewT :=
  ⟨PE.imp pe_dnewT fun σ H Q ⟨g, B0, ρ, env, S, R, N, q⟩ p hp => by
    obtain ⟨R2, e2⟩ := R.push (o := .dT []) hp rfl fun B _ _ => ⟨[], upd_same, .nil⟩
    exact q g _ _ (.ref p) R2 e2 ⟨p, by rw [← R.len]; simp, rfl⟩, fun _ _ _ _ _ _ h _ q => h _ _ q⟩
theorem me_dnewK : ME E X (.Dict [] [] pos) mDNewK :=
  ⟨PE.imp pe_dnewK fun σ H Q ⟨g, B0, ρ, env, S, R, N, q⟩ p hp => by
    obtain ⟨R2, e2⟩ := R.push (o := .dK []) hp rfl fun B _ _ => ⟨[], upd_same, .nil⟩
    exact q g _ _ (.ref p) R2 e2 ⟨p, by rw [← R.len]; simp, rfl⟩, fun _ _ _ _ _ _ h _ q => h _ _ q⟩
/-- d[k] -/
def mDGetW (md mk : MX) : MX := fun env S Q E => md env S (fun w1 S1 => mk env S1 (fun w2 S2 => ∃ w, dOf S2 w1 w2 (some w) ∧ Q w S2) E) E
theorem me_dgetW (hu : X.A.units + 1 < cLine) (ha : ME E X o md) (hb : ME E X i mk) (hs : NoSl i := by exact fun _ _ => rfl) : ME E X (.Subscript o i pos) (mDGetW md mk) := by
  refine ⟨PE.imp (pe_dget hu ha.pe hb.pe hs) fun σ H Q ⟨g, B0, ρ, env, S, R, N, q⟩ => ?_, fun env S Q Q' E E' h hx q => ha.mono _ _ _ _ _ _ (fun w S1 z => hb.mono _ _ _ _ _ _ (fun w2 S2 ⟨w, a, b⟩ => ⟨w, a, h _ _ b⟩) hx z) hx q⟩
  refine tM.go ha.mono R N q (fun _ z => z) fun w1 S1 q1 g1 ρ1 H1 v1 R1 e1 r1 => ?_
  refine tM.go hb.mono R1 (N.ext e1) q1 (fun x z => z.ext e1) fun w2 S2 ⟨w, hd, q2⟩ g2 ρ2 H2 v2 R2 e2 r2 => ?_
  obtain ⟨a, r, ev, _, hg, hr⟩ := dOf_get R2 (r1.ext e2) r2 hd
  cases r with
  | none => exact hr.elim
  | some z => exact ⟨a, z, ev, hg, q2 _ _ _ _ R2 (e1.trans e2) hr⟩
/-- k in d, k not in d: a test -/
def mDIn (mk md : MX) : MX := fun env S Q E => mk env S (fun w2 S1 => md env S1 (fun w1 S2 => ∃ o, dOf S2 w1 w2 o ∧ Q (.d (.bl o.isSome)) S2) E) E
def mDNotIn (mk md : MX) : MX := fun env S Q E => mk env S (fun w2 S1 => md env S1 (fun w1 S2 => ∃ o, dOf S2 w1 w2 o ∧ Q (.d (.bl (!o.isSome))) S2) E) E
theorem optR_some {F : W → V → Prop} {o : Option W} {r : Option V} (h : OptR F o r) : r.isSome = o.isSome := by
  cases o <;> cases r <;> first | rfl | exact h.elim
/-- d.get(k, x) -/
def mDGet2 (md mk mx : MX) : MX := fun env S Q E => md env S (fun w1 S1 => isDW S1 w1 ∧ mk env S1 (fun w2 S2 => mx env S2 (fun w3 S3 => ∃ o, dOf S3 w1 w2 o ∧ Q (o.getD w3) S3) E) E) E
theorem me_dget2 {mx : MX} (hu : X.A.units + 1 < cLine) (ho : ME E X o md) (he : ME E X e mk) (hf : ME E X f mx) (m : M2 X o "get" apos e f cpos := by exact ⟨rfl, rfl, rfl, rfl⟩) : ME E X (.Call (.Attribute o "get" apos) [e, f] [] cpos) (mDGet2 md mk mx) := by
  refine ⟨PE.imp (pe_dget2 hu ho.pe he.pe hf.pe m) fun σ H Q ⟨g, B0, ρ, env, S, R, N, q⟩ => ?_, fun env S Q Q' E E' h hx q => ho.mono _ _ _ _ _ _ (fun w S1 ⟨a, z⟩ => ⟨a, he.mono _ _ _ _ _ _ (fun w2 S2 z => hf.mono _ _ _ _ _ _ (fun w3 S3 ⟨o, a, b⟩ => ⟨o, a, h _ _ b⟩) hx z) hx z⟩) hx q⟩
  refine tM.go ho.mono R N q (fun _ z => z) fun w1 S1 ⟨hD, q1⟩ g1 ρ1 H1 v1 R1 e1 r1 => ?_
  obtain ⟨a, ev, hI⟩ := isDW_at R1 r1 hD
  refine ⟨a, ev, hI, ?_⟩
  refine tM.go he.mono R1 (N.ext e1) q1 (fun x z => z.ext e1) fun w2 S2 q2 g2 ρ2 H2 v2 R2 e2 r2 => ?_
  refine tM.go hf.mono R2 ((N.ext e1).ext e2) q2 (fun x z => z.ext (e1.trans e2)) fun w3 S3 ⟨o, hd, q3⟩ g3 ρ3 H3 v3 R3 e3 r3 => ?_
  obtain ⟨a', r, ev', _, hg, hr⟩ := dOf_get R3 ((r1.ext e2).ext e3) (r2.ext e3) hd
  cases ev.symm.trans ev'
  refine ⟨r, hg, q3 _ _ _ _ R3 ((e1.trans e2).trans e3) ?_⟩
  cases o <;> cases r <;> first | exact hr.elim | exact r3 | exact hr
/-- d.get(k) -/
def mDGet1 (md mk : MX) : MX := fun env S Q E => md env S (fun w1 S1 => isDW S1 w1 ∧ mk env S1 (fun w2 S2 => ∃ o, dOf S2 w1 w2 o ∧ Q (o.getD (.d .non)) S2) E) E
theorem me_dget1 (hu : X.A.units + 1 < cLine) (ho : ME E X o md) (he : ME E X e mk) (m : M1 X o "get" apos e cpos := by exact ⟨rfl, rfl, rfl, rfl⟩) : ME E X (.Call (.Attribute o "get" apos) [e] [] cpos) (mDGet1 md mk) := by
  refine ⟨PE.imp (pe_dget1 hu ho.pe he.pe m) fun σ H Q ⟨g, B0, ρ, env, S, R, N, q⟩ => ?_, fun env S Q Q' E E' h hx q => ho.mono _ _ _ _ _ _ (fun w S1 ⟨a, z⟩ => ⟨a, he.mono _ _ _ _ _ _ (fun w2 S2 ⟨o, a, b⟩ => ⟨o, a, h _ _ b⟩) hx z⟩) hx q⟩
  refine tM.go ho.mono R N q (fun _ z => z) fun w1 S1 ⟨hD, q1⟩ g1 ρ1 H1 v1 R1 e1 r1 => ?_
  obtain ⟨a, ev, hI⟩ := isDW_at R1 r1 hD
  refine ⟨a, ev, hI, ?_⟩
  refine tM.go he.mono R1 (N.ext e1) q1 (fun x z => z.ext e1) fun w2 S2 ⟨o, hd, q2⟩ g2 ρ2 H2 v2 R2 e2 r2 => ?_
  obtain ⟨a', r, ev', _, hg, hr⟩ := dOf_get R2 (r1.ext e2) r2 hd
  cases ev.symm.trans ev'
  refine ⟨r, hg, q2 _ _ _ _ R2 (e1.trans e2) ?_⟩
  cases o <;> cases r <;> first | exact hr.elim | exact RV.non | exact hr
/-- d[k] = v -/
def sDPutW (md mk mv : MX) : MS := fun K env S => mv env S (fun w S1 => md env S1 (fun w1 S2 => mk env S2 (fun w2 S3 => ∃ S4, dPut S3 w1 w2 w S4 ∧ K.nx env S4) K.ex) K.ex) K.ex
theorem ms_dputW {value : Expr} (hu : X.A.units + 1 < cLine) (ho : ME E X o md) (hi : ME E X i mk) (hv : ME E X value mv) (hs : swapsWith value (some (.Subscript o i pos')) pos.line X.env = pure false := by rfl) :
    MSJ E X (.Assign [.Subscript o i pos'] value pos) (sDPutW md mk mv) := by
  refine ⟨PS.imp (ps_dput hu ho.pe hi.pe hv.pe hs) fun D' σ H ⟨g, B0, ρ, env, S, R, N, q⟩ => ?_, fun K K' env S kk h => hv.mono _ _ _ _ _ _ (fun w S1 z => ho.mono _ _ _ _ _ _ (fun w1 S2 z => hi.mono _ _ _ _ _ _ (fun w2 S3 ⟨S4, a, b⟩ => ⟨S4, a, kk.nx _ _ b⟩) kk.ex z) kk.ex z) kk.ex h⟩
  refine tM.go hv.mono R N q (fun _ z => z) fun w S1 q1 g1 ρ1 H1 v R1 e1 r1 => ?_
  refine tM.go ho.mono R1 (N.ext e1) q1 (fun x z => XPost.ext e1 z) fun w1 S2 q2 g2 ρ2 H2 v1 R2 e2 r2 => ?_
  refine tM.go hi.mono R2 ((N.ext e1).ext e2) q2 (fun x z => XPost.ext (e1.trans e2) z) fun w2 S3 ⟨S4, hp, q3⟩ g3 ρ3 H3 v2 R3 e3 r3 => ?_
  obtain ⟨a, H4, ev, hd, R4, e4⟩ := dPut_at R3 (r2.ext e3) r3 ((r1.ext e2).ext e3) hp
  exact ⟨a, H4, ev, hd, q3 _ _ _ σ R4 (((e1.trans e2).trans e3).trans e4) ((((N.ext e1).ext e2).ext e3).ext e4)⟩
end
end RW
/-! walks, in lists of numbers alone -/
namespace RW
theorem asc_eq : ∀ {a b : List Int}, a.Pairwise (· < ·) → b.Pairwise (· < ·) → (∀ x, x ∈ a ↔ x ∈ b) → a = b
  | [], [], _, _, _ => rfl
  | [], y :: b, _, _, h => absurd ((h y).mpr List.mem_cons_self) (by simp)
  | x :: a, [], _, _, h => absurd ((h x).mp List.mem_cons_self) (by simp)
  | x :: a, y :: b, ha, hb, h => by
    obtain ⟨a1, a2⟩ := List.pairwise_cons.mp ha
    obtain ⟨b1, b2⟩ := List.pairwise_cons.mp hb
    have e : x = y := by
      rcases List.mem_cons.mp ((h x).mp List.mem_cons_self) with z | z
      · exact z
      · rcases List.mem_cons.mp ((h y).mpr List.mem_cons_self) with w | w
        · exact w.symm
        · have := b1 x z
          have := a1 y w
          omega
    subst e
    rw [asc_eq a2 b2 fun z => ?_]
    constructor
    · intro hz
      rcases List.mem_cons.mp ((h z).mp (List.mem_cons_of_mem _ hz)) with w | w
      · have := a1 z hz
        omega
      · exact w
    · intro hz
      rcases List.mem_cons.mp ((h z).mpr (List.mem_cons_of_mem _ hz)) with w | w
      · have := b1 z hz
        omega
      · exact w
def rg0 (n : Nat) : List Int := (List.range n).map fun (i : Nat) => (i : Int)
theorem rg0_mem {n : Nat} {x : Int} : x ∈ rg0 n ↔ 0 ≤ x ∧ x < n := by
  unfold rg0
  constructor
  · intro h
    obtain ⟨i, hi, rfl⟩ := List.mem_map.mp h
    have := List.mem_range.mp hi
    omega
  · intro h
    exact List.mem_map.mpr ⟨x.toNat, List.mem_range.mpr (by omega), by omega⟩
theorem rg0_asc (n : Nat) : (rg0 n).Pairwise (· < ·) := by
  unfold rg0
  rw [List.pairwise_map]
  exact List.pairwise_lt_range.imp fun h => by omega
/-- whether a walk of so many steps leads from a label to an end -/
def leadR (beh : Int → List Int) (E : Int → Bool) : Nat → Int → Bool
  | 0, l => E l
  | k + 1, l => (beh l).any (leadR beh E k)
def greedy (beh : Int → List Int) (E : Int → Bool) : Nat → Int → List Int
  | 0, _ => []
  | k + 1, v => match (beh v).filter (leadR beh E k) with
    | [] => []
    | w :: _ => w :: greedy beh E k w
def walkO (beh : Int → List Int) (E : Int → Bool) (k : Nat) (from_ : List Int) : Option (List Int) := match from_.filter (leadR beh E k) with
  | [] => none
  | v :: _ => some (v :: greedy beh E k v)
def okW (E : Int → Bool) (pr : Int → Int → Bool) : List Int → Bool
  | [] => false
  | [v] => E v
  | v :: w :: r => pr v w && okW E pr (w :: r)
section
variable {beh : Int → List Int} {E : Int → Bool} {pr : Int → Int → Bool} {n : Nat}
theorem greedy_ok (hb : ∀ v w, w ∈ beh v → pr v w = true) : ∀ (k : Nat) (v : Int), leadR beh E k v = true → (greedy beh E k v).length = k ∧ okW E pr (v :: greedy beh E k v) = true
  | 0, v, h => ⟨rfl, h⟩
  | k + 1, v, h => by
    unfold leadR at h
    obtain ⟨w, hw, hl⟩ := List.any_eq_true.mp h
    unfold greedy
    cases e : (beh v).filter (leadR beh E k) with
    | nil =>
      have : w ∈ (beh v).filter (leadR beh E k) := List.mem_filter.mpr ⟨hw, hl⟩
      rw [e] at this
      cases this
    | cons u r =>
      have hu : u ∈ (beh v).filter (leadR beh E k) := by rw [e]; exact List.mem_cons_self
      obtain ⟨u1, u2⟩ := List.mem_filter.mp hu
      obtain ⟨i1, i2⟩ := greedy_ok hb k u u2
      exact ⟨by show (greedy beh E k u).length + 1 = k + 1; rw [i1], by show (pr v u && okW E pr (u :: greedy beh E k u)) = true; rw [hb v u u1, i2]; rfl⟩
/-! all rows, in their order -/
def rowsA (n : Nat) : Nat → List (List Int)
  | 0 => [[]]
  | k + 1 => (rowsA n k).flatMap fun row => (rg0 n).map fun l => row ++ [l]
def rowsC (n : Nat) : Nat → List (List Int)
  | 0 => [[]]
  | k + 1 => (rg0 n).flatMap fun l => (rowsC n k).map (l :: ·)
theorem rows_step (n : Nat) : ∀ k : Nat, ((rowsC n k).flatMap fun row => (rg0 n).map fun l => row ++ [l]) = rowsC n (k + 1)
  | 0 => by
    show ([[]] : List (List Int)).flatMap _ = (rg0 n).flatMap fun l => ([[]] : List (List Int)).map (l :: ·)
    simp only [List.flatMap_cons, List.flatMap_nil, List.append_nil, List.nil_append, List.map_cons, List.map_nil]
    rw [List.map_eq_flatMap]
  | k + 1 => by
    show ((rg0 n).flatMap fun l => (rowsC n k).map (l :: ·)).flatMap _ = (rg0 n).flatMap fun l => (rowsC n (k + 1)).map (l :: ·)
    rw [List.flatMap_assoc]
    refine congrArg (fun f => (rg0 n).flatMap f) (funext fun l => ?_)
    rw [← rows_step n k, List.map_flatMap, List.flatMap_map]
    refine congrArg (fun f => (rowsC n k).flatMap f) (funext fun row => ?_)
    rw [List.map_map]
    rfl
theorem rows_eq (n : Nat) : ∀ k : Nat, rowsA n k = rowsC n k
  | 0 => rfl
  | k + 1 => by
    show (rowsA n k).flatMap _ = _
    rw [rows_eq n k, rows_step]
theorem find_head {α β : Type} (p : α → Bool) (g : α → β) : ∀ l : List α, (l.findSome? fun a => if p a = true then some (g a) else none) = ((l.filter p).head?).map g
  | [] => rfl
  | a :: l => by
    rw [List.findSome?_cons, List.filter_cons]
    by_cases h : p a = true
    · rw [if_pos h, if_pos h]
      rfl
    · rw [if_neg h, if_neg h]
      exact find_head p g l
theorem leadR_succ (beh : Int → List Int) (E : Int → Bool) (k : Nat) (v : Int) : leadR beh E (k + 1) v = (beh v).any (leadR beh E k) := rfl
theorem greedy_succ (beh : Int → List Int) (E : Int → Bool) (k : Nat) (v : Int) : greedy beh E (k + 1) v = match (beh v).filter (leadR beh E k) with
    | [] => []
    | w :: _ => w :: greedy beh E k w := rfl
theorem head_rows (hb : ∀ v : Int, 0 ≤ v → v < n → beh v = (rg0 n).filter (pr v)) : ∀ (k : Nat) (v : Int), 0 ≤ v → v < n → ((rowsC n k).filter fun r => okW E pr (v :: r)).head? = if leadR beh E k v = true then some (greedy beh E k v) else none
  | 0, v, _, _ => by
    show (([[]] : List (List Int)).filter fun r => okW E pr (v :: r)).head? = if E v = true then some [] else none
    rw [List.filter_cons]
    show (if E v = true then [[]] else []).head? = _
    split <;> rfl
  | k + 1, v, h0, h1 => by
    show (((rg0 n).flatMap fun l => (rowsC n k).map (l :: ·)).filter fun r => okW E pr (v :: r)).head? = _
    rw [List.filter_flatMap, List.head?_flatMap]
    have step : ∀ l ∈ rg0 n, (((rowsC n k).map (l :: ·)).filter fun r => okW E pr (v :: r)).head? = if (pr v l && leadR beh E k l) = true then some (l :: greedy beh E k l) else none := fun l hl => by
      obtain ⟨l0, l1⟩ := rg0_mem.mp hl
      rw [List.filter_map, List.head?_map]
      have ih := head_rows hb k l l0 l1
      by_cases hp : pr v l = true
      · have e : ((fun r => okW E pr (v :: r)) ∘ (l :: ·)) = fun r => okW E pr (l :: r) := funext fun r => by
          show (pr v l && okW E pr (l :: r)) = _
          rw [hp, Bool.true_and]
        rw [e, ih, hp, Bool.true_and]
        split <;> rfl
      · have e : (rowsC n k).filter ((fun r => okW E pr (v :: r)) ∘ (l :: ·)) = [] := List.filter_eq_nil_iff.mpr fun r _ => by
          show ¬ (pr v l && okW E pr (l :: r)) = true
          rw [Bool.eq_false_iff.mpr hp]
          simp
        rw [e, Bool.eq_false_iff.mpr hp]
        rfl
    have e2 : ((rg0 n).findSome? fun l => (((rowsC n k).map (l :: ·)).filter fun r => okW E pr (v :: r)).head?) = (rg0 n).findSome? fun l => if (pr v l && leadR beh E k l) = true then some (l :: greedy beh E k l) else none := by
      have go : ∀ ls : List Int, (∀ l ∈ ls, l ∈ rg0 n) → (ls.findSome? fun l => (((rowsC n k).map (l :: ·)).filter fun r => okW E pr (v :: r)).head?) = ls.findSome? fun l => if (pr v l && leadR beh E k l) = true then some (l :: greedy beh E k l) else none := by
        intro ls
        induction ls with
        | nil => intro _; rfl
        | cons l ls ih =>
          intro hs
          rw [List.findSome?_cons, List.findSome?_cons, step l (hs l List.mem_cons_self), ih fun x hx => hs x (List.mem_cons_of_mem _ hx)]
      exact go _ fun _ h => h
    rw [e2, find_head]
    have eb : (beh v).filter (leadR beh E k) = (rg0 n).filter fun l => pr v l && leadR beh E k l := by
      rw [hb v h0 h1, List.filter_filter]
      exact List.filter_congr fun x _ => Bool.and_comm _ _
    rw [leadR_succ, greedy_succ, eb]
    have ea : (beh v).any (leadR beh E k) = !((rg0 n).filter fun l => pr v l && leadR beh E k l).isEmpty := by
      rw [← eb]
      cases q : (beh v).any (leadR beh E k) with
      | true =>
        obtain ⟨w, w1, w2⟩ := List.any_eq_true.mp q
        have : w ∈ (beh v).filter (leadR beh E k) := List.mem_filter.mpr ⟨w1, w2⟩
        cases z : (beh v).filter (leadR beh E k) with
        | nil => rw [z] at this; cases this
        | cons a b => rfl
      | false =>
        rw [List.filter_eq_nil_iff.mpr fun w hw z => by rw [List.any_eq_true.mpr ⟨w, hw, z⟩] at q; cases q]
        rfl
    rw [ea]
    generalize (rg0 n).filter (fun l => pr v l && leadR beh E k l) = fl
    cases fl with
    | nil => rfl
    | cons a b => rfl
theorem head_all {B : Int → Bool} (hb : ∀ v : Int, 0 ≤ v → v < n → beh v = (rg0 n).filter (pr v)) (k : Nat) : ((rowsC n (k + 1)).filter fun r => B (r.headD 0) && okW E pr r).head? = walkO beh E k ((rg0 n).filter B) := by
  show (((rg0 n).flatMap fun l => (rowsC n k).map (l :: ·)).filter fun r => B (r.headD 0) && okW E pr r).head? = _
  rw [List.filter_flatMap, List.head?_flatMap]
  have step : ∀ l ∈ rg0 n, (((rowsC n k).map (l :: ·)).filter fun r => B (r.headD 0) && okW E pr r).head? = if (B l && leadR beh E k l) = true then some (l :: greedy beh E k l) else none := fun l hl => by
    obtain ⟨l0, l1⟩ := rg0_mem.mp hl
    rw [List.filter_map, List.head?_map]
    have ih := head_rows (E := E) hb k l l0 l1
    by_cases hp : B l = true
    · have e : ((fun r => B (r.headD 0) && okW E pr r) ∘ (l :: ·)) = fun r => okW E pr (l :: r) := funext fun r => by
        show (B l && okW E pr (l :: r)) = _
        rw [hp, Bool.true_and]
      rw [e, ih, hp, Bool.true_and]
      split <;> rfl
    · have e : (rowsC n k).filter ((fun r => B (r.headD 0) && okW E pr r) ∘ (l :: ·)) = [] := List.filter_eq_nil_iff.mpr fun r _ => by
        show ¬ (B l && okW E pr (l :: r)) = true
        rw [Bool.eq_false_iff.mpr hp]
        simp
      rw [e, Bool.eq_false_iff.mpr hp]
      rfl
  have e2 : ((rg0 n).findSome? fun l => (((rowsC n k).map (l :: ·)).filter fun r => B (r.headD 0) && okW E pr r).head?) = (rg0 n).findSome? fun l => if (B l && leadR beh E k l) = true then some (l :: greedy beh E k l) else none := by
    have go : ∀ ls : List Int, (∀ l ∈ ls, l ∈ rg0 n) → (ls.findSome? fun l => (((rowsC n k).map (l :: ·)).filter fun r => B (r.headD 0) && okW E pr r).head?) = ls.findSome? fun l => if (B l && leadR beh E k l) = true then some (l :: greedy beh E k l) else none := by
      intro ls
      induction ls with
      | nil => intro _; rfl
      | cons l ls ih =>
        intro hs
        rw [List.findSome?_cons, List.findSome?_cons, step l (hs l List.mem_cons_self), ih fun x hx => hs x (List.mem_cons_of_mem _ hx)]
    exact go _ fun _ h => h
  rw [e2, find_head]
  unfold walkO
  have eb : ((rg0 n).filter B).filter (leadR beh E k) = (rg0 n).filter fun l => B l && leadR beh E k l := by
    rw [List.filter_filter]
    exact List.filter_congr fun x _ => Bool.and_comm _ _
  rw [eb]
  generalize (rg0 n).filter (fun l => B l && leadR beh E k l) = fl
  cases fl with
  | nil => rfl
  | cons a b => rfl
/-! with all labels as ends: what leads so far as there are labels leads on for ever -/
theorem lead_down (hr : ∀ v w, w ∈ beh v → 0 ≤ w ∧ w < n) (hE : ∀ v : Int, 0 ≤ v → v < n → E v = true) : ∀ (k : Nat) (v : Int), 0 ≤ v → v < n → leadR beh E (k + 1) v = true → leadR beh E k v = true
  | 0, v, h0, h1, _ => hE v h0 h1
  | k + 1, v, h0, h1, h => by
    obtain ⟨w, w1, w2⟩ := List.any_eq_true.mp (show (beh v).any (leadR beh E (k + 1)) = true from h)
    obtain ⟨a, b⟩ := hr v w w1
    exact List.any_eq_true.mpr ⟨w, w1, lead_down hr hE k w a b w2⟩
def ledL (beh : Int → List Int) (E : Int → Bool) (n k : Nat) : List Int := (rg0 n).filter (leadR beh E k)
theorem led_step (hr : ∀ v w, w ∈ beh v → 0 ≤ w ∧ w < n) {k : Nat} (h : ledL beh E n (k + 1) = ledL beh E n k) : ledL beh E n (k + 2) = ledL beh E n (k + 1) := by
  unfold ledL at h ⊢
  have same : ∀ w ∈ rg0 n, leadR beh E (k + 1) w = leadR beh E k w := fun w hw => by
    rw [Bool.eq_iff_iff]
    have m1 : w ∈ (rg0 n).filter (leadR beh E (k + 1)) ↔ w ∈ (rg0 n).filter (leadR beh E k) := by rw [h]
    rw [List.mem_filter, List.mem_filter] at m1
    exact ⟨fun z => (m1.mp ⟨hw, z⟩).2, fun z => (m1.mpr ⟨hw, z⟩).2⟩
  refine List.filter_congr fun v hv => ?_
  rw [leadR_succ, leadR_succ beh E k, Bool.eq_iff_iff]
  constructor
  · intro z
    obtain ⟨w, w1, w2⟩ := List.any_eq_true.mp z
    exact List.any_eq_true.mpr ⟨w, w1, by rw [← same w (rg0_mem.mpr (hr v w w1))]; exact w2⟩
  · intro z
    obtain ⟨w, w1, w2⟩ := List.any_eq_true.mp z
    exact List.any_eq_true.mpr ⟨w, w1, by rw [same w (rg0_mem.mpr (hr v w w1))]; exact w2⟩
theorem led_stable (hr : ∀ v w, w ∈ beh v → 0 ≤ w ∧ w < n) {k : Nat} (h : ledL beh E n (k + 1) = ledL beh E n k) : ∀ j : Nat, ledL beh E n (k + j) = ledL beh E n k
  | 0 => rfl
  | j + 1 => by
    have go : ∀ i : Nat, ledL beh E n (k + i + 1) = ledL beh E n (k + i) := fun i => by
      induction i with
      | zero => exact h
      | succ i ih => exact led_step hr ih
    rw [← led_stable hr h j]
    exact go j
theorem led_lt (hr : ∀ v w, w ∈ beh v → 0 ≤ w ∧ w < n) (hE : ∀ v : Int, 0 ≤ v → v < n → E v = true) (k : Nat) (h : ¬ ledL beh E n (k + 1) = ledL beh E n k) : (ledL beh E n (k + 1)).length < (ledL beh E n k).length := by
  have e : ledL beh E n (k + 1) = (ledL beh E n k).filter (leadR beh E (k + 1)) := by
    unfold ledL
    rw [List.filter_filter]
    refine List.filter_congr fun v hv => ?_
    obtain ⟨a, b⟩ := rg0_mem.mp hv
    cases q : leadR beh E (k + 1) v with
    | false => rfl
    | true => rw [lead_down hr hE k v a b q] <;> rfl
  have sub : (ledL beh E n (k + 1)).Sublist (ledL beh E n k) := by
    rw [e]
    exact List.filter_sublist
  have := sub.length_le
  exact Nat.lt_of_le_of_ne this fun e => h (sub.eq_of_length e)
theorem led_len (hr : ∀ v w, w ∈ beh v → 0 ≤ w ∧ w < n) (hE : ∀ v : Int, 0 ≤ v → v < n → E v = true) : ∀ k : Nat, (∃ j, j ≤ k ∧ ledL beh E n (j + 1) = ledL beh E n j) ∨ (ledL beh E n (k + 1)).length + k + 1 ≤ n
  | 0 => by
    by_cases h : ledL beh E n 1 = ledL beh E n 0
    · exact .inl ⟨0, Nat.le_refl _, h⟩
    · refine .inr ?_
      have := led_lt hr hE 0 h
      have : (ledL beh E n 0).length ≤ n := by
        unfold ledL
        refine Nat.le_trans (List.length_filter_le _ _) ?_
        unfold rg0
        rw [List.length_map, List.length_range]
        exact Nat.le_refl _
      omega
  | k + 1 => by
    rcases led_len hr hE k with ⟨j, hj, e⟩ | hl
    · exact .inl ⟨j, by omega, e⟩
    · by_cases h : ledL beh E n (k + 2) = ledL beh E n (k + 1)
      · exact .inl ⟨k + 1, Nat.le_refl _, h⟩
      · have := led_lt hr hE (k + 1) h
        exact .inr (by omega)
/-- many steps lead on exactly if n steps do -/
theorem lead_far (hr : ∀ v w, w ∈ beh v → 0 ≤ w ∧ w < n) (hE : ∀ v : Int, 0 ≤ v → v < n → E v = true) {i j : Nat} (hi : n ≤ i) (hj : n ≤ j) {v : Int} (h0 : 0 ≤ v) (h1 : v < n) : leadR beh E i v = leadR beh E j v := by
  have key : ∃ k, k ≤ n ∧ ledL beh E n (k + 1) = ledL beh E n k := by
    rcases led_len hr hE n with h | h
    · exact h
    · omega
  obtain ⟨k, hk, e⟩ := key
  have st : ∀ m, n ≤ m → ledL beh E n m = ledL beh E n k := fun m hm => by
    have := led_stable hr e (m - k)
    rwa [show k + (m - k) = m by omega] at this
  have ee : ledL beh E n i = ledL beh E n j := (st i hi).trans (st j hj).symm
  unfold ledL at ee
  have m1 : v ∈ (rg0 n).filter (leadR beh E i) ↔ v ∈ (rg0 n).filter (leadR beh E j) := by rw [ee]
  rw [List.mem_filter, List.mem_filter] at m1
  have hv := rg0_mem.mpr ⟨h0, h1⟩
  rw [Bool.eq_iff_iff]
  exact ⟨fun z => (m1.mp ⟨hv, z⟩).2, fun z => (m1.mpr ⟨hv, z⟩).2⟩
end
end RW
/-! RwWays: how many walks, in plain lists. -/
namespace RW
/-- how many walks of so many steps lead from a label to an end -/
def cntW (beh : Int → List Int) (E : Int → Bool) : Nat → Int → Int
  | 0, l => if E l = true then 1 else 0
  | k + 1, l => ((beh l).map (cntW beh E k)).sum
theorem sum_nn : ∀ {l : List Int}, (∀ x ∈ l, 0 ≤ x) → 0 ≤ l.sum
  | [], _ => by simp
  | x :: l, h => by
    rw [List.sum_cons]
    have := h x List.mem_cons_self
    have := sum_nn (l := l) fun y hy => h y (List.mem_cons_of_mem _ hy)
    omega
theorem sum_pos {α : Type} (f : α → Int) : ∀ {l : List α}, (∀ x ∈ l, 0 ≤ f x) → (0 < (l.map f).sum ↔ ∃ x ∈ l, 0 < f x)
  | [], _ => by simp
  | x :: l, h => by
    rw [List.map_cons, List.sum_cons]
    have h0 := h x List.mem_cons_self
    have hl : ∀ y ∈ l, 0 ≤ f y := fun y hy => h y (List.mem_cons_of_mem _ hy)
    have hs : 0 ≤ (l.map f).sum := sum_nn fun z hz => by
      obtain ⟨y, hy, rfl⟩ := List.mem_map.mp hz
      exact hl y hy
    have ih := sum_pos f hl
    constructor
    · intro hp
      by_cases hx : 0 < f x
      · exact ⟨x, List.mem_cons_self, hx⟩
      · obtain ⟨y, hy, z⟩ := ih.mp (by omega)
        exact ⟨y, List.mem_cons_of_mem _ hy, z⟩
    · rintro ⟨y, hy, hp⟩
      rcases List.mem_cons.mp hy with rfl | hy
      · omega
      · have := ih.mpr ⟨y, hy, hp⟩
        omega
theorem perm_sum {a b : List Int} (h : a.Perm b) : a.sum = b.sum := by
  induction h with
  | nil => rfl
  | cons x _ ih => rw [List.sum_cons, List.sum_cons, ih]
  | swap x y l =>
    rw [List.sum_cons, List.sum_cons, List.sum_cons, List.sum_cons]
    omega
  | trans _ _ i j => exact i.trans j
theorem sum_zero {α : Type} : ∀ l : List α, (l.map fun _ => (0 : Int)).sum = 0
  | [] => rfl
  | a :: l => by
    rw [List.map_cons, List.sum_cons, sum_zero l]
    rfl
section
variable {beh : Int → List Int} {E : Int → Bool} {pr : Int → Int → Bool} {n : Nat}
theorem cnt_nn : ∀ (k : Nat) (l : Int), 0 ≤ cntW beh E k l
  | 0, l => by unfold cntW; split <;> omega
  | k + 1, l => by
    unfold cntW
    refine sum_nn fun x hx => ?_
    obtain ⟨y, _, rfl⟩ := List.mem_map.mp hx
    exact cnt_nn k y
theorem cnt_pos : ∀ (k : Nat) (l : Int), decide (0 < cntW beh E k l) = leadR beh E k l
  | 0, l => by
    unfold cntW leadR
    cases E l <;> rfl
  | k + 1, l => by
    rw [leadR_succ, Bool.eq_iff_iff, decide_eq_true_eq, List.any_eq_true]
    show 0 < ((beh l).map (cntW beh E k)).sum ↔ _
    rw [sum_pos _ fun x _ => cnt_nn k x]
    constructor
    · rintro ⟨x, hx, hp⟩
      exact ⟨x, hx, by rw [← cnt_pos k x]; exact decide_eq_true hp⟩
    · rintro ⟨x, hx, hp⟩
      exact ⟨x, hx, by rw [← cnt_pos k x] at hp; exact of_decide_eq_true hp⟩
theorem cnt_le {b : Nat} (hb : ∀ l, (beh l).length ≤ b) : ∀ (k : Nat) (l : Int), cntW beh E k l ≤ ((b ^ k : Nat) : Int)
  | 0, l => by unfold cntW; split <;> simp
  | k + 1, l => by
    unfold cntW
    have go : ∀ ls : List Int, (ls.map (cntW beh E k)).sum ≤ ((ls.length * b ^ k : Nat) : Int) := by
      intro ls
      induction ls with
      | nil => simp
      | cons x ls ih =>
        rw [List.map_cons, List.sum_cons, List.length_cons, Nat.succ_mul]
        have := cnt_le hb k x
        omega
    refine Int.le_trans (go _) ?_
    rw [Nat.pow_succ, Nat.mul_comm (b ^ k) b]
    exact Int.ofNat_le.mpr (Nat.mul_le_mul_right _ (hb l))
theorem sum_ifs {α : Type} (p : α → Bool) (g : α → Int) : ∀ l : List α, (l.map fun a => if p a = true then g a else 0).sum = ((l.filter p).map g).sum
  | [] => rfl
  | a :: l => by
    rw [List.map_cons, List.sum_cons, sum_ifs p g l, List.filter_cons]
    by_cases h : p a = true
    · rw [if_pos h, if_pos h, List.map_cons, List.sum_cons]
    · rw [if_neg h, if_neg h]
      omega
theorem len_flat {α β : Type} (f : α → List β) (g : α → Int) : ∀ l : List α, (∀ a ∈ l, ((f a).length : Int) = g a) → ((l.flatMap f).length : Int) = (l.map g).sum
  | [], _ => rfl
  | a :: l, h => by
    rw [List.flatMap_cons, List.length_append, List.map_cons, List.sum_cons, ← len_flat f g l fun b hb => h b (List.mem_cons_of_mem _ hb), ← h a List.mem_cons_self]
    omega
theorem cnt_rows (hb : ∀ v : Int, 0 ≤ v → v < n → beh v = (rg0 n).filter (pr v)) : ∀ (k : Nat) (v : Int), 0 ≤ v → v < n → (((rowsC n k).filter fun r => okW E pr (v :: r)).length : Int) = cntW beh E k v
  | 0, v, _, _ => by
    show ((([[]] : List (List Int)).filter fun r => okW E pr (v :: r)).length : Int) = if E v = true then 1 else 0
    rw [List.filter_cons]
    show ((if E v = true then [[]] else ([] : List (List Int))).length : Int) = _
    split <;> rfl
  | k + 1, v, h0, h1 => by
    show ((((rg0 n).flatMap fun l => (rowsC n k).map (l :: ·)).filter fun r => okW E pr (v :: r)).length : Int) = ((beh v).map (cntW beh E k)).sum
    rw [List.filter_flatMap, len_flat _ (fun l => if pr v l = true then cntW beh E k l else 0), sum_ifs, hb v h0 h1]
    intro l hl
    obtain ⟨l0, l1⟩ := rg0_mem.mp hl
    rw [List.filter_map, List.length_map]
    by_cases hp : pr v l = true
    · have e : ((fun r => okW E pr (v :: r)) ∘ (l :: ·)) = fun r => okW E pr (l :: r) := funext fun r => by
        show (pr v l && okW E pr (l :: r)) = _
        rw [hp, Bool.true_and]
      rw [e, cnt_rows hb k l l0 l1, if_pos hp]
    · have e : (rowsC n k).filter ((fun r => okW E pr (v :: r)) ∘ (l :: ·)) = [] := List.filter_eq_nil_iff.mpr fun r _ => by
        show ¬ (pr v l && okW E pr (l :: r)) = true
        rw [Bool.eq_false_iff.mpr hp]
        simp
      rw [e, if_neg hp]
      rfl
/-- the ends hang on the begin -/
def walkE (beh : Int → List Int) (E : Int → Int → Bool) (k : Nat) (from_ : List Int) : Option (List Int) := match from_.filter (fun v => leadR beh (E v) k v) with
  | [] => none
  | v :: _ => some (v :: greedy beh (E v) k v)
def okE (B : Int → Bool) (E : Int → Int → Bool) (pr : Int → Int → Bool) (r : List Int) : Bool := B (r.headD 0) && okW (E (r.headD 0)) pr r
theorem rows_count {B : Int → Bool} {E : Int → Int → Bool} (hb : ∀ v : Int, 0 ≤ v → v < n → beh v = (rg0 n).filter (pr v)) (k : Nat) : (((rowsC n (k + 1)).filter (okE B E pr)).length : Int) = (((rg0 n).filter B).map fun v => cntW beh (E v) k v).sum := by
  show ((((rg0 n).flatMap fun l => (rowsC n k).map (l :: ·)).filter (okE B E pr)).length : Int) = _
  rw [List.filter_flatMap, len_flat _ (fun l => if B l = true then cntW beh (E l) k l else 0), sum_ifs]
  intro l hl
  obtain ⟨l0, l1⟩ := rg0_mem.mp hl
  rw [List.filter_map, List.length_map]
  by_cases hp : B l = true
  · have e : (okE B E pr ∘ (l :: ·)) = fun r => okW (E l) pr (l :: r) := funext fun r => by
      show (B l && okW (E l) pr (l :: r)) = _
      rw [hp, Bool.true_and]
    rw [e, cnt_rows hb k l l0 l1, if_pos hp]
  · have e : (rowsC n k).filter (okE B E pr ∘ (l :: ·)) = [] := List.filter_eq_nil_iff.mpr fun r _ => by
      show ¬ (B l && okW (E l) pr (l :: r)) = true
      rw [Bool.eq_false_iff.mpr hp]
      simp
    rw [e, if_neg hp]
    rfl
theorem rows_head {B : Int → Bool} {E : Int → Int → Bool} (hb : ∀ v : Int, 0 ≤ v → v < n → beh v = (rg0 n).filter (pr v)) (k : Nat) : ((rowsC n (k + 1)).filter (okE B E pr)).head? = walkE beh E k ((rg0 n).filter B) := by
  show (((rg0 n).flatMap fun l => (rowsC n k).map (l :: ·)).filter (okE B E pr)).head? = _
  rw [List.filter_flatMap, List.head?_flatMap]
  have step : ∀ l ∈ rg0 n, (((rowsC n k).map (l :: ·)).filter (okE B E pr)).head? = if (B l && leadR beh (E l) k l) = true then some (l :: greedy beh (E l) k l) else none := fun l hl => by
    obtain ⟨l0, l1⟩ := rg0_mem.mp hl
    rw [List.filter_map, List.head?_map]
    have ih := head_rows (E := E l) hb k l l0 l1
    by_cases hp : B l = true
    · have e : (okE B E pr ∘ (l :: ·)) = fun r => okW (E l) pr (l :: r) := funext fun r => by
        show (B l && okW (E l) pr (l :: r)) = _
        rw [hp, Bool.true_and]
      rw [e, ih, hp, Bool.true_and]
      split <;> rfl
    · have e : (rowsC n k).filter (okE B E pr ∘ (l :: ·)) = [] := List.filter_eq_nil_iff.mpr fun r _ => by
        show ¬ (B l && okW (E l) pr (l :: r)) = true
        rw [Bool.eq_false_iff.mpr hp]
        simp
      rw [e, Bool.eq_false_iff.mpr hp]
      rfl
  have go : ∀ ls : List Int, (∀ l ∈ ls, l ∈ rg0 n) → (ls.findSome? fun l => (((rowsC n k).map (l :: ·)).filter (okE B E pr)).head?) = ls.findSome? fun l => if (B l && leadR beh (E l) k l) = true then some (l :: greedy beh (E l) k l) else none := by
    intro ls
    induction ls with
    | nil => intro _; rfl
    | cons l ls ih =>
      intro hs
      rw [List.findSome?_cons, List.findSome?_cons, step l (hs l List.mem_cons_self), ih fun x hx => hs x (List.mem_cons_of_mem _ hx)]
  rw [go _ fun _ h => h, find_head]
  unfold walkE
  have eb : ((rg0 n).filter B).filter (fun v => leadR beh (E v) k v) = (rg0 n).filter fun l => B l && leadR beh (E l) k l := by
    rw [List.filter_filter]
    exact List.filter_congr fun x _ => Bool.and_comm _ _
  rw [eb]
  generalize (rg0 n).filter (fun l => B l && leadR beh (E l) k l) = fl
  cases fl with
  | nil => rfl
  | cons a b => rfl
end
/-! ### a table of numbers by keys, as it grows -/
section
variable {κ : Type} [DecidableEq κ]
def getA (L : List (κ × Int)) (k : κ) : Option Int := (L.find? fun p => decide (p.1 = k)).map (·.2)
def putA (L : List (κ × Int)) (k : κ) (v : Int) : List (κ × Int) := if (L.any fun p => decide (p.1 = k)) = true then L.map (fun p => if p.1 = k then (p.1, v) else p) else L ++ [(k, v)]
def addA (L : List (κ × Int)) (k : κ) (v : Int) : List (κ × Int) := putA L k ((getA L k).getD 0 + v)
def sumA (w : κ → Int) (L : List (κ × Int)) : Int := (L.map fun p => p.2 * w p.1).sum
theorem any_keys {L : List (κ × Int)} {k : κ} : (L.any fun p => decide (p.1 = k)) = true ↔ k ∈ L.map (·.1) := by
  rw [List.any_eq_true, List.mem_map]
  exact ⟨fun ⟨p, h, e⟩ => ⟨p, h, of_decide_eq_true e⟩, fun ⟨p, h, e⟩ => ⟨p, h, decide_eq_true e⟩⟩
theorem map_keys {k : κ} {v : Int} : ∀ L : List (κ × Int), (L.map (fun p => if p.1 = k then (p.1, v) else p)).map (·.1) = L.map (·.1)
  | [] => rfl
  | p :: L => by
    rw [List.map_cons, List.map_cons, map_keys L, List.map_cons]
    split <;> rfl
theorem put_keys (L : List (κ × Int)) (k : κ) (v : Int) : (putA L k v).map (·.1) = if k ∈ L.map (·.1) then L.map (·.1) else L.map (·.1) ++ [k] := by
  unfold putA
  by_cases h : (L.any fun p => decide (p.1 = k)) = true
  · rw [if_pos h, if_pos (any_keys.mp h), map_keys]
  · rw [if_neg h, if_neg fun z => h (any_keys.mpr z), List.map_append]
    rfl
theorem put_nodup {L : List (κ × Int)} (nd : (L.map (·.1)).Nodup) (k : κ) (v : Int) : ((putA L k v).map (·.1)).Nodup := by
  rw [put_keys]
  by_cases h : k ∈ L.map (·.1)
  · rw [if_pos h]
    exact nd
  · rw [if_neg h]
    refine List.nodup_append.mpr ⟨nd, by simp, fun a ha b hb e => ?_⟩
    have : b = k := by simpa using hb
    exact h (by rw [← this, ← e]; exact ha)
theorem sum_same {w : κ → Int} {k : κ} {v : Int} : ∀ {L : List (κ × Int)}, k ∉ L.map (·.1) → (L.map (fun p => if p.1 = k then (p.1, v) else p)) = L
  | [], _ => rfl
  | p :: L, h => by
    rw [List.map_cons, List.mem_cons] at h
    rw [List.map_cons, if_neg fun z => h (.inl z.symm), sum_same (w := w) fun z => h (.inr z)]
theorem sum_put {w : κ → Int} {k : κ} {v : Int} : ∀ {L : List (κ × Int)}, (L.map (·.1)).Nodup → k ∈ L.map (·.1) → sumA w (L.map (fun p => if p.1 = k then (p.1, v) else p)) = sumA w L + (v - (getA L k).getD 0) * w k
  | [], _, h => nomatch h
  | p :: L, nd, h => by
    rw [List.map_cons, List.nodup_cons] at nd
    by_cases e : p.1 = k
    · have nk : k ∉ L.map (·.1) := e ▸ nd.1
      have g : getA (p :: L) k = some p.2 := by
        unfold getA
        rw [List.find?_cons_of_pos (by simpa using e)]
        rfl
      rw [List.map_cons, if_pos e, sum_same (w := w) nk, g]
      show ((p.1, v).2 * w (p.1, v).1) + sumA w L = (p.2 * w p.1 + sumA w L) + (v - p.2) * w k
      rw [e, Int.sub_mul]
      show v * w k + sumA w L = _
      omega
    · have hk : k ∈ L.map (·.1) := by
        rw [List.map_cons, List.mem_cons] at h
        exact h.resolve_left fun z => e z.symm
      have g : getA (p :: L) k = getA L k := by
        unfold getA
        rw [List.find?_cons_of_neg (by simpa using e)]
      rw [List.map_cons, if_neg e, g]
      show p.2 * w p.1 + sumA w _ = (p.2 * w p.1 + sumA w L) + _
      rw [sum_put nd.2 hk]
      omega
theorem get_none {L : List (κ × Int)} {k : κ} (h : k ∉ L.map (·.1)) : getA L k = none := by
  unfold getA
  rw [List.find?_eq_none.mpr fun p hp z => h (List.mem_map.mpr ⟨p, hp, of_decide_eq_true z⟩)]
  rfl
theorem get_mem {L : List (κ × Int)} (nd : (L.map (·.1)).Nodup) {p : κ × Int} (h : p ∈ L) : getA L p.1 = some p.2 := by
  induction L with
  | nil => cases h
  | cons q L ih =>
    rw [List.map_cons, List.nodup_cons] at nd
    unfold getA
    by_cases e : q.1 = p.1
    · rw [List.find?_cons_of_pos (by simpa using e)]
      rcases List.mem_cons.mp h with z | z
      · rw [z]
        rfl
      · exact absurd (e ▸ List.mem_map.mpr ⟨p, z, rfl⟩) nd.1
    · rw [List.find?_cons_of_neg (by simpa using e)]
      rcases List.mem_cons.mp h with z | z
      · exact absurd (by rw [z]) e
      · exact ih nd.2 z
theorem sum_add (w : κ → Int) {L : List (κ × Int)} (nd : (L.map (·.1)).Nodup) (k : κ) (v : Int) : sumA w (addA L k v) = sumA w L + v * w k := by
  unfold addA putA
  by_cases h : (L.any fun p => decide (p.1 = k)) = true
  · rw [if_pos h, sum_put nd (any_keys.mp h)]
    congr 1
    congr 1
    omega
  · rw [if_neg h, get_none fun z => h (any_keys.mpr z)]
    unfold sumA
    rw [List.map_append, List.sum_append]
    show _ + ((0 + v) * w k + 0) = _
    rw [Int.zero_add, Int.add_zero]
end
theorem sumA_cons {κ : Type} (w : κ → Int) (p : κ × Int) (T : List (κ × Int)) : sumA w (p :: T) = p.2 * w p.1 + sumA w T := by
  unfold sumA
  rw [List.map_cons, List.sum_cons]
/-- the steps of a table of walks -/
def stepP (p : (Int × Int) × Int) (L : List ((Int × Int) × Int)) (q : Int × Int) : List ((Int × Int) × Int) := if q.1 = p.1.2 then addA L (p.1.1, q.2) p.2 else L
def stepT (P : List (Int × Int)) (L : List ((Int × Int) × Int)) (p : (Int × Int) × Int) : List ((Int × Int) × Int) := P.foldl (stepP p) L
def stepsA (P : List (Int × Int)) (T : List ((Int × Int) × Int)) : List ((Int × Int) × Int) := T.foldl (stepT P) []
theorem stepP_nodup {p : (Int × Int) × Int} : ∀ (P : List (Int × Int)) {L : List ((Int × Int) × Int)}, (L.map (·.1)).Nodup → ((P.foldl (stepP p) L).map (·.1)).Nodup
  | [], _, h => h
  | q :: P, L, h => by
    rw [List.foldl_cons]
    refine stepP_nodup P ?_
    unfold stepP
    split
    · exact put_nodup h _ _
    · exact h
theorem stepT_nodup (P : List (Int × Int)) : ∀ (T : List ((Int × Int) × Int)) {L : List ((Int × Int) × Int)}, (L.map (·.1)).Nodup → ((T.foldl (stepT P) L).map (·.1)).Nodup
  | [], _, h => h
  | p :: T, L, h => by
    rw [List.foldl_cons]
    exact stepT_nodup P T (stepP_nodup P h)
def behP (P : List (Int × Int)) (v : Int) : List Int := (P.filter fun p => decide (p.1 = v)).map (·.2)
theorem sum_stepP (w : Int × Int → Int) (p : (Int × Int) × Int) : ∀ (P : List (Int × Int)) {L : List ((Int × Int) × Int)}, (L.map (·.1)).Nodup → sumA w (P.foldl (stepP p) L) = sumA w L + p.2 * ((behP P p.1.2).map fun b => w (p.1.1, b)).sum
  | [], L, _ => by
    show sumA w L = sumA w L + p.2 * 0
    omega
  | q :: P, L, nd => by
    have nd2 : ((stepP p L q).map (·.1)).Nodup := stepP_nodup [q] nd
    rw [List.foldl_cons, sum_stepP w p P nd2]
    unfold stepP behP
    rw [List.filter_cons]
    by_cases h : q.1 = p.1.2
    · rw [if_pos h, sum_add w nd, if_pos (by simpa using h), List.map_cons, List.map_cons, List.sum_cons, Int.mul_add]
      omega
    · rw [if_neg h, if_neg (by simpa using h)]
theorem sum_stepT (w : Int × Int → Int) (P : List (Int × Int)) : ∀ (T : List ((Int × Int) × Int)) {L : List ((Int × Int) × Int)}, (L.map (·.1)).Nodup → sumA w (T.foldl (stepT P) L) = sumA w L + sumA (fun k => ((behP P k.2).map fun b => w (k.1, b)).sum) T
  | [], L, _ => by
    show sumA w L = sumA w L + 0
    omega
  | p :: T, L, nd => by
    rw [List.foldl_cons]
    show sumA w (T.foldl (stepT P) (P.foldl (stepP p) L)) = _
    rw [sum_stepT w P T (stepP_nodup P nd), sum_stepP w p P nd]
    rw [sumA_cons]
    omega
def waysA (P : List (Int × Int)) (n : Nat) : Nat → List ((Int × Int) × Int)
  | 0 => (rg0 n).map fun l => ((l, l), 1)
  | k + 1 => stepsA P (waysA P n k)
theorem ways_nodup (P : List (Int × Int)) (n : Nat) : ∀ k, ((waysA P n k).map (·.1)).Nodup
  | 0 => by
    unfold waysA
    rw [List.map_map]
    have : ((rg0 n).map ((fun x : (Int × Int) × Int => x.1) ∘ fun l => ((l, l), 1))) = (rg0 n).map fun l => (l, l) := rfl
    rw [this, List.nodup_iff_pairwise_ne, List.pairwise_map]
    exact (rg0_asc n).imp fun h e => by
      have := congrArg Prod.fst e
      simp at this
      omega
  | k + 1 => stepT_nodup P _ (by simp)
theorem ways_sum (P : List (Int × Int)) (n : Nat) {beh : Int → List Int} (hb : ∀ v, (behP P v).Perm (beh v)) (B : Int → Bool) (E : Int → Int → Bool) : ∀ (k j : Nat), sumA (fun q => if B q.1 = true then cntW beh (E q.1) j q.2 else 0) (waysA P n k) = (((rg0 n).filter B).map fun v => cntW beh (E v) (k + j) v).sum
  | 0, j => by
    unfold waysA sumA
    rw [List.map_map, Nat.zero_add, ← sum_ifs]
    refine congrArg List.sum (List.map_congr_left fun l _ => ?_)
    show 1 * _ = _
    rw [Int.one_mul]
  | k + 1, j => by
    show sumA _ (stepsA P (waysA P n k)) = _
    unfold stepsA
    rw [sum_stepT _ P _ (by simp), show k + 1 + j = k + (j + 1) by omega, ← ways_sum P n hb B E k (j + 1)]
    show 0 + _ = _
    rw [Int.zero_add]
    refine congrArg (fun f => sumA f (waysA P n k)) (funext fun q => ?_)
    by_cases hB : B q.1 = true
    · simp only [hB, if_true]
      show _ = ((beh q.2).map (cntW beh (E q.1) j)).sum
      have pm := (hb q.2).map (cntW beh (E q.1) j)
      exact perm_sum pm
    · simp only [hB, if_false]
      have : ((behP P q.2).map fun b => if B (q.1, b).1 = true then cntW beh (E (q.1, b).1) j (q.1, b).2 else 0) = (behP P q.2).map fun _ => (0 : Int) := List.map_congr_left fun b _ => if_neg hB
      exact sum_zero _
theorem stepP_keys {R : Int × Int → Prop} {p : (Int × Int) × Int} : ∀ (P : List (Int × Int)) {L : List ((Int × Int) × Int)}, (∀ q ∈ P, R (p.1.1, q.2)) → (∀ k ∈ L.map (·.1), R k) → ∀ k ∈ (P.foldl (stepP p) L).map (·.1), R k
  | [], _, _, h => h
  | q :: P, L, hq, h => by
    rw [List.foldl_cons]
    refine stepP_keys P (fun x hx => hq x (List.mem_cons_of_mem _ hx)) fun k hk => ?_
    unfold stepP at hk
    split at hk
    · unfold addA at hk
      rw [put_keys] at hk
      split at hk
      · exact h k hk
      · rcases List.mem_append.mp hk with z | z
        · exact h k z
        · have : k = (p.1.1, q.2) := by simpa using z
          rw [this]
          exact hq q List.mem_cons_self
    · exact h k hk
theorem stepT_keys {R : Int × Int → Prop} (P : List (Int × Int)) : ∀ (T : List ((Int × Int) × Int)) {L : List ((Int × Int) × Int)}, (∀ p ∈ T, ∀ q ∈ P, R (p.1.1, q.2)) → (∀ k ∈ L.map (·.1), R k) → ∀ k ∈ (T.foldl (stepT P) L).map (·.1), R k
  | [], _, _, h => h
  | p :: T, L, hq, h => by
    rw [List.foldl_cons]
    exact stepT_keys P T (fun x hx => hq x (List.mem_cons_of_mem _ hx)) (stepP_keys P (hq p List.mem_cons_self) h)
theorem ways_keys {P : List (Int × Int)} {n : Nat} (hP : ∀ p ∈ P, (0 ≤ p.1 ∧ p.1 < n) ∧ 0 ≤ p.2 ∧ p.2 < n) : ∀ (k : Nat) (q : Int × Int), q ∈ (waysA P n k).map (·.1) → (0 ≤ q.1 ∧ q.1 < (n : Int)) ∧ 0 ≤ q.2 ∧ q.2 < (n : Int)
  | 0, q, hq => by
    unfold waysA at hq
    rw [List.map_map] at hq
    obtain ⟨l, hl, rfl⟩ := List.mem_map.mp hq
    have := rg0_mem.mp hl
    exact ⟨this, this⟩
  | k + 1, q, hq => stepT_keys (R := fun q => (0 ≤ q.1 ∧ q.1 < (n : Int)) ∧ 0 ≤ q.2 ∧ q.2 < (n : Int)) P (waysA P n k) (fun p hp x hx => ⟨(ways_keys hP k p.1 (List.mem_map.mpr ⟨p, hp, rfl⟩)).1, (hP x hx).2⟩) (fun k hk => by simp at hk) q hq
end RW
/-! RwPl: plain readings that name no def of a program. -/
namespace RW
open PySem PySem.Spec PyProof.Rows L2 SrtO
variable [Tbl]
def isNum (d : D) : Bool := isiB "int" d && !isiB "bool" d
theorem isNum_int (i : Int) : isNum (.int i) = true := rfl
theorem isNum_inv {d : D} (h : isNum d = true) : ∃ i, d = .int i := by
  cases d <;> first | exact ⟨_, rfl⟩ | (simp [isNum, isiB, tyNm, isiS] at h; done)
section
variable {Q E : D → Prop}
end
def btw (d : D) (lo hi : Int) : Bool := match d with
  | .int i => decide (lo ≤ i) && decide (i ≤ hi)
  | _ => false
theorem btw_inv {d : D} {lo hi : Int} (h : btw d lo hi = true) : ∃ i, d = .int i ∧ lo ≤ i ∧ i ≤ hi := by
  cases d with
  | int i =>
    simp only [btw, Bool.and_eq_true, decide_eq_true_eq] at h
    exact ⟨i, rfl, h⟩
  | _ => cases h
theorem btw_not {d : D} {lo hi : Int} (h : isNum d ≠ true) : btw d lo hi = false := by
  cases d with
  | int i => exact absurd rfl h
  | _ => rfl
section
variable {Q E : D → Prop}
end
section
variable {Q E : D → Prop}
end
theorem intsD_btw {lo hi : Int} : ∀ {xs : List D}, (∀ x ∈ xs, btw x lo hi = true) → ∃ ns : List Int, xs = ns.map D.int ∧ ∀ n ∈ ns, lo ≤ n ∧ n ≤ hi
  | [], _ => ⟨[], rfl, fun _ z => nomatch z⟩
  | x :: xs, h => by
    obtain ⟨i, rfl, h1⟩ := btw_inv (h x List.mem_cons_self)
    obtain ⟨ns, rfl, h2⟩ := intsD_btw fun y hy => h y (List.mem_cons_of_mem _ hy)
    exact ⟨i :: ns, rfl, fun n hn => by
      rcases List.mem_cons.mp hn with rfl | hn
      · exact h1
      · exact h2 n hn⟩
section
variable {Q E : D → Prop}
end
theorem in1_ints (v : Int) : ∀ ns : List Int, in1 (.int v) (ns.map D.int) = decide (v ∈ ns)
  | [] => rfl
  | n :: ns => by
    have ih := in1_ints v ns
    unfold in1 at ih ⊢
    rw [List.map_cons, List.any_cons, ih]
    show ((n == v) || decide (v ∈ ns)) = _
    rw [Bool.eq_iff_iff]
    simp only [Bool.or_eq_true, beq_iff_eq, decide_eq_true_eq, List.mem_cons]
    exact ⟨fun h => h.imp (fun z => z.symm) id, fun h => h.imp (fun z => z.symm) id⟩
theorem rd_lst (xs : List D) : rd [.lst (xs.map W.d)] (.ref 0) = some (.lst xs) := by
  show (datas (xs.map W.d)).map D.lst = _
  rw [datas_map]
  rfl
theorem mapO_one {α β : Type} {f : α → Option β} {a : α} {b : β} (h : f a = some b) : mapO f [a] = some [b] := by
  unfold mapO mapO
  rw [h]
theorem fl_ints : ∀ ns : List Int, (ns.map D.int).all fl1 = true
  | [] => rfl
  | _ :: ns => fl_ints ns
theorem toPys_ints : ∀ ns : List Int, toPys (ns.map D.int) = some (ns.map PyData.int)
  | [] => rfl
  | n :: ns => by
    have ih := toPys_ints ns
    simp only [List.map_cons, toPys, toPy, ih]
theorem toPy_tupI (ns : List Int) : toPy (.tup (ns.map D.int)) = some (.tuple (ns.map PyData.int)) := by
  simp only [toPy, toPys_ints, Option.map_some]
theorem layI : ∀ ns : List Int, PyData.canLayAll0 (ns.map PyData.int) = true
  | [] => rfl
  | n :: ns => by simp only [List.map_cons, PyData.canLayAll0, PyData.canLay0, layI ns, Bool.and_self]
theorem depI : ∀ ns : List Int, PyData.depthAll (ns.map PyData.int) = 0
  | [] => rfl
  | n :: ns => by simp only [List.map_cons, PyData.depthAll, PyData.depth, depI ns, Nat.max_self]
theorem eq_tupI (ns : List Int) : eqD (.tup (ns.map D.int)) (.tup (ns.map D.int)) = true := by
  rw [eqD_of (toPy_tupI ns) (toPy_tupI ns), PyData.eqv]
  exact SeqAt.eqvAll_refl _ (layI ns)
theorem shapedI (ns : List Int) : SeqAt.shaped (.tuple (ns.map PyData.int)) = true := by
  simp only [SeqAt.shaped, PyData.canLay0, PyData.depth, layI, depI]
  decide
theorem cEq_tupI (ns ms : List Int) : cEq (.tup (ns.map D.int)) (.tup (ms.map D.int)) := ⟨_, _, toPy_tupI ns, toPy_tupI ms, shapedI ns, shapedI ms⟩
def cleanT (x : Str) : Prop := ∀ c ∈ x.cps.toList, c < 0x110000
theorem clean_ok {x : Str} (h : cleanT x) : PyData.strOk x = true := by
  unfold PyData.strOk
  rw [← Array.all_toList, List.all_eq_true]
  exact fun c hc => decide_eq_true (h c hc)
theorem clean_of (s : String) : cleanT (Str.ofString s) := fun c hc => by
  rw [signs_ofString] at hc
  obtain ⟨k, _, rfl⟩ := List.mem_map.mp hc
  have := k.valid
  have e : k.toNat = k.val.toNat := rfl
  rw [e]
  rcases this with h | ⟨_, h⟩
  · exact Nat.lt_trans h (by decide)
  · exact h
theorem clean_app {a b : Str} (ha : cleanT a) (hb : cleanT b) : cleanT (a ++ b) := fun c hc => (mem_cps_append.mp hc).elim (ha c) (hb c)
theorem clean_tup {ts : List Str} (h : ∀ t ∈ ts, cleanT t) : cleanT (tupleText ts) := by
  unfold tupleText
  refine clean_app (clean_app (clean_of _) fun c hc => ?_) ?_
  · rcases (mem_join _ c ts).mp hc with ⟨t, ht, z⟩ | ⟨_, z⟩
    · exact h t ht c z
    · exact clean_of ", " c z
  · split
    · exact clean_of _
    · exact clean_of _
theorem cleanI : ∀ ns : List Int, ∀ t ∈ PyData.shownAll (ns.map PyData.int), cleanT t
  | [], _, h => nomatch h
  | n :: ns, t, h => by
    simp only [List.map_cons, PyData.shownAll, List.mem_cons] at h
    rcases h with rfl | h
    · exact clean_of _
    · exact cleanI ns t h
theorem cEq_shownI (ns : List Int) : cEq (.str (shownD (.tup (ns.map D.int)))) (.str (shownD (.tup (ns.map D.int)))) := by
  have h : SeqAt.shaped (.str (shownD (.tup (ns.map D.int)))) = true := by
    unfold shownD
    rw [toPy_tupI]
    simp only [SeqAt.shaped, PyData.canLay0, PyData.depth, PyData.shown, clean_ok (clean_tup (cleanI ns))]
    rfl
  exact ⟨_, _, rfl, rfl, h, h⟩
theorem dCount_nodup {ns : List Int} (h : ns.Nodup) : dCount ns = ns.length := (dCount_of ns ns h fun _ => Iff.rfl).symm
theorem nodup_dCount : ∀ {ns : List Int}, dCount ns = ns.length → ns.Nodup
  | [], _ => List.nodup_nil
  | n :: ns, h => by
    have le : ∀ l : List Int, dCount l ≤ l.length := fun l => by
      induction l with
      | nil => exact Nat.le_refl _
      | cons a l ih => unfold dCount; rw [List.length_cons]; split <;> omega
    have := le ns
    unfold dCount at h
    rw [List.length_cons] at h
    by_cases hn : n ∈ ns
    · rw [if_pos hn] at h
      omega
    · rw [if_neg hn] at h
      exact List.nodup_cons.mpr ⟨hn, nodup_dCount (by omega)⟩
theorem btwI {lo hi : Int} : ∀ {ns : List Int}, (∀ n ∈ ns, lo ≤ n ∧ n ≤ hi) → (ns.map D.int).all (fun x => btw x lo hi) = true
  | [], _ => rfl
  | n :: ns, h => by
    have h1 := h n List.mem_cons_self
    rw [List.map_cons, List.all_cons, btwI fun m hm => h m (List.mem_cons_of_mem _ hm), Bool.and_true]
    simp only [btw, decide_eq_true h1.1, decide_eq_true h1.2, Bool.and_self]
theorem dicI : ∀ ns : List Int, PyData.hasDictAll (ns.map PyData.int) = false
  | [] => rfl
  | n :: ns => by simp only [List.map_cons, PyData.hasDictAll, PyData.hasDict, dicI ns, Bool.or_self]
abbrev smallI (n : Int) : Prop := n.natAbs < 10 ^ 12
theorem shoI : ∀ ns : List Int, (∀ n ∈ ns, smallI n) → PyData.showableAll (ns.map PyData.int) = true
  | [], _ => rfl
  | n :: ns, h => by
    have h1 := h n List.mem_cons_self
    have l : n.natAbs.log2 < 1920 := by
      by_cases z : n.natAbs = 0
      · rw [z]
        decide
      · refine (Nat.log2_lt z).mpr (Nat.lt_trans h1 ?_)
        exact Nat.lt_of_lt_of_le (by decide : 10 ^ 12 < 2 ^ 40) (Nat.pow_le_pow_right (by decide) (by decide))
    simp only [List.map_cons, PyData.showableAll, PyData.showable, decide_eq_true l, shoI ns fun m hm => h m (List.mem_cons_of_mem _ hm), Bool.and_self]
theorem lenI : ∀ ns : List Int, (∀ n ∈ ns, smallI n) → ((PyData.shownAll (ns.map PyData.int)).map (·.length)).sum ≤ 13 * ns.length ∧ (PyData.shownAll (ns.map PyData.int)).length = ns.length
  | [], _ => ⟨Nat.zero_le _, rfl⟩
  | n :: ns, h => by
    have h1 : (PyData.shown (.int n)).length ≤ 13 := PyData.shown_int_le (h n List.mem_cons_self)
    have ih := lenI ns fun m hm => h m (List.mem_cons_of_mem _ hm)
    simp only [List.map_cons, PyData.shownAll, List.sum_cons, List.length_cons]
    omega
theorem repr_tupI {ns : List Int} (h : ∀ n ∈ ns, smallI n) (hl : ns.length ≤ 100000) : cRepr (.tup (ns.map D.int)) := by
  refine ⟨rfl, _, toPy_tupI ns, ?_, ?_, ?_, ?_⟩
  · simp only [PyData.showable, shoI ns h]
  · simp only [PyData.hasDict, dicI]
  · simp only [PyData.depth, depI]
    decide
  · have := lenI ns h
    have := tupleText_len_le (PyData.shownAll (ns.map PyData.int))
    simp only [PyData.shown]
    unfold line
    omega
theorem filt_ints (p : Int → Bool) (p' : D → Bool) (h : ∀ n, p' (.int n) = p n) : ∀ ns : List Int, (ns.map D.int).filter p' = (ns.filter p).map D.int
  | [] => rfl
  | n :: ns => by
    rw [List.map_cons, List.filter_cons, List.filter_cons, h, filt_ints p p' h ns]
    split <;> rfl
section
variable {Q E : D → Prop}
theorem lc_ints {gd : Sto → Prop} {f : MG} {tt : MT} {te : MX} {envW : MEnv} {S : Sto} {P : List D → Sto → Prop} (gS : gd S) (p : Int → Bool) (el : Int → D) (ns : List Int) (hl : ns.length ≤ line)
    (h : ∀ n ∈ ns, ∃ env2, f (.int n) envW = some env2 ∧ (∀ (Q' : Bool → Sto → Prop), Q' (p n) S → tt env2 S Q' (fun _ => False)) ∧ (p n = true → ∀ (Q' : W → Sto → Prop), Q' (.d (el n)) S → te env2 S Q' (fun _ => False)))
    (q : P ((ns.filter p).map el) S) : lcM gd f tt te envW (ns.map D.int) [] S (fun ws S2 => ∃ xs, datas ws = some xs ∧ P xs S2) := by
  refine lc_selp gS (fun d => match d with | .int n => p n | _ => false) (elI el) (ns.map D.int) (by rw [List.length_map]; exact hl) (fun x hx => ?_) ?_
  · obtain ⟨n, hn, rfl⟩ := List.mem_map.mp hx
    exact h n hn
  · rw [filt_ints p _ (fun _ => rfl), List.map_map]
    exact q
end
section
variable {Q E : D → Prop}
theorem lc_rel {gd : Sto → Prop} {f : MG} {te : MX} {envW : MEnv} {S : Sto} (gS : gd S) (R : D → D → Prop) {Qf : List W → Sto → Prop} : ∀ (items : List D) (acc : List W), acc.length + items.length ≤ line →
    (∀ x ∈ items, ∃ env2, f x envW = some env2 ∧ ∀ (Q' : W → Sto → Prop), (∀ y, R x y → Q' (.d y) S) → te env2 S Q' (fun _ => False)) → (∀ ys, Paired R items ys → Qf (acc ++ ys.map W.d) S) → lcM gd f mYes te envW items acc S Qf
  | [], acc, _, _, q => by
    have := q [] .nil
    rw [List.map_nil, List.append_nil] at this
    exact ⟨gS, this⟩
  | x :: xs, acc, hl, h, q => by
    obtain ⟨env2, e1, e2⟩ := h x List.mem_cons_self
    rw [List.length_cons] at hl
    refine ⟨gS, env2, e1, ?_⟩
    show (if (true : Bool) = true then te env2 S (fun w S3 => acc.length < line ∧ lcM gd f mYes te envW xs (acc ++ [w]) S3 Qf) (fun _ => False) else lcM gd f mYes te envW xs acc S Qf)
    rw [if_pos rfl]
    refine e2 _ fun y hy => ⟨by omega, lc_rel gS R xs (acc ++ [.d y]) (by rw [List.length_append]; show acc.length + 1 + xs.length ≤ line; omega) (fun z hz => h z (List.mem_cons_of_mem _ hz)) fun ys hp => ?_⟩
    have := q (y :: ys) (.cons hy hp)
    rw [List.append_assoc]
    exact this
end
theorem lc_relp {gd : Sto → Prop} {f : MG} {te : MX} {envW : MEnv} {S : Sto} {P : List D → Sto → Prop} (gS : gd S) (R : D → D → Prop) (items : List D) (hl : items.length ≤ line)
    (h : ∀ x ∈ items, ∃ env2, f x envW = some env2 ∧ ∀ (Q' : W → Sto → Prop), (∀ y, R x y → Q' (.d y) S) → te env2 S Q' (fun _ => False)) (q : ∀ ys, Paired R items ys → P ys S) : lcM gd f mYes te envW items [] S (fun ws S2 => ∃ xs, datas ws = some xs ∧ P xs S2) :=
  lc_rel gS R items [] (by simpa using hl) h fun ys hp => ⟨ys, by rw [List.nil_append]; exact datas_map _, q ys hp⟩
theorem perm_erase {α : Type} : ∀ (xs : List α) (k : Nat) (h : k < xs.length), (xs[k] :: xs.eraseIdx k).Perm xs
  | x :: xs, 0, _ => List.Perm.refl _
  | x :: xs, k + 1, h => by
    have h' : k < xs.length := Nat.lt_of_succ_lt_succ h
    exact (List.Perm.swap x xs[k] (xs.eraseIdx k)).trans ((perm_erase xs k h').cons x)
theorem cEq_lst0 (ns : List Int) : cEq (.lst (ns.map D.int)) (.lst []) := by
  refine ⟨.list (ns.map PyData.int), .list [], by simp only [toPy, toPys_ints, Option.map_some], rfl, ?_, by decide⟩
  simp only [SeqAt.shaped, PyData.canLay0, PyData.depth, layI, depI]
  decide
theorem eq_lst0 : ∀ ns : List Int, eqD (.lst (ns.map D.int)) (.lst []) = decide (ns = [])
  | [] => by rw [eqD_of (p := .list []) (q := .list []) rfl rfl]; rfl
  | n :: ns => by
    rw [eqD_of (p := .list ((n :: ns).map PyData.int)) (q := .list []) (by simp only [toPy, toPys_ints, Option.map_some]) rfl]
    simp [PyData.eqv, PyData.eqvAll]
theorem rd_at {S : Sto} {i : Nat} {xs : List D} (h : S[i]? = some (.lst (xs.map W.d))) : rd S (.ref i) = some (.lst xs) := by
  show (match S[i]? with | some (.lst ws) => (datas ws).map D.lst | some (.frz x) => some x | _ => none) = _
  rw [h]
  show (datas (xs.map W.d)).map D.lst = _
  rw [datas_map]
  rfl
theorem erase_map {α β : Type} (g : α → β) : ∀ (xs : List α) (k : Nat), (xs.map g).eraseIdx k = (xs.eraseIdx k).map g
  | [], _ => by simp
  | x :: xs, 0 => rfl
  | x :: xs, k + 1 => by
    show g x :: (xs.map g).eraseIdx k = g x :: (xs.eraseIdx k).map g
    rw [erase_map g xs k]
theorem mapO_dp {n : Nat} {S : Sto} : ∀ xs : List D, mapO (dp n S) (xs.map W.d) = some xs
  | [] => rfl
  | x :: xs => by
    show mapO (dp n S) (W.d x :: xs.map W.d) = _
    unfold mapO
    rw [mapO_dp xs]
    cases n <;> rfl
theorem seqIx {j : Int} {n : Nat} (h0 : 0 ≤ j) (h1 : j < n) : seqIndex? j n = some j.toNat := by
  unfold seqIndex?
  simp only [if_neg (show ¬ j < 0 by omega)]
  rw [if_pos (by simp [h0, h1])]
def plcI (n : Nat) : List Int := (List.range n).map fun (i : Nat) => (i : Int)
theorem plc_eq (n : Nat) : rangeD 0 n = (plcI n).map D.int := by
  unfold rangeD plcI
  rw [List.map_map]
  refine List.map_congr_left fun i _ => ?_
  show D.int (0 + (i : Int)) = D.int i
  rw [Int.zero_add]
theorem cut_sub (ms : List Int) (lo hi : Option Int) : ∃ ks : List Int, cutD (ms.map D.int) lo hi = ks.map D.int ∧ ks.Sublist ms := by
  unfold cutD
  exact ⟨_, by rw [← List.map_drop, ← List.map_take], (List.take_sublist _ _).trans (List.drop_sublist _ _)⟩
theorem cut_to {ms : List Int} {p : Int} (h0 : 0 ≤ p) (h1 : p ≤ ms.length) : cutD (ms.map D.int) none (some p) = (ms.take p.toNat).map D.int := by
  unfold cutD
  show ((ms.map D.int).drop 0).take ((if p < 0 then (p + ((ms.map D.int).length : Int)).toNat else min p.toNat (ms.map D.int).length) - 0) = _
  rw [if_neg (by omega), List.length_map, List.drop_zero, Nat.sub_zero, Nat.min_eq_left (by omega), List.map_take]
theorem cut_from {ms : List Int} {p : Int} (h0 : 0 ≤ p) (h1 : p ≤ ms.length) : cutD (ms.map D.int) (some p) none = (ms.drop p.toNat).map D.int := by
  unfold cutD
  show ((ms.map D.int).drop (if p < 0 then (p + ((ms.map D.int).length : Int)).toNat else min p.toNat (ms.map D.int).length)).take ((ms.map D.int).length - _) = _
  rw [if_neg (by omega), List.length_map, Nat.min_eq_left (by omega), List.map_drop]
  refine List.take_of_length_le ?_
  have e : HT.sIx ms.length 0 (some p) = p.toNat := by
    show (if p < 0 then (p + (ms.length : Int)).toNat else min p.toNat ms.length) = _
    rw [if_neg (by omega), Nat.min_eq_left (by omega)]
  rw [List.length_drop, List.length_map, e]
  exact Nat.le_refl _
theorem eqvI : ∀ a b : List Int, PyData.eqvAll (a.map PyData.int) (b.map PyData.int) = decide (a = b)
  | [], [] => rfl
  | [], _ :: _ => rfl
  | _ :: _, [] => rfl
  | x :: a, y :: b => by
    show (PyData.eqv (.int x) (.int y) && PyData.eqvAll (a.map PyData.int) (b.map PyData.int)) = _
    rw [eqvI a b]
    show ((x == y) && _) = _
    by_cases h1 : x = y <;> by_cases h2 : a = b <;> simp [h1, h2]
theorem eq_tup2 (a b : List Int) : eqD (tupI a) (tupI b) = decide (a = b) := by
  show eqD (.tup (a.map D.int)) (.tup (b.map D.int)) = _
  rw [eqD_of (toPy_tupI a) (toPy_tupI b)]
  show PyData.eqvAll (a.map PyData.int) (b.map PyData.int) = _
  exact eqvI a b
theorem plus_tupI (a b : List Int) : plusD (tupI a) (tupI b) = tupI (a ++ b) := by
  unfold tupI
  rw [List.map_append]
  rfl
theorem ix_at {xs : List D} {i : Int} {d : D} (h : atI xs i = some d) : fIx (.tup xs) (.int i) = d := by
  show (atI xs i).getD D.non = d
  rw [h]
  rfl
theorem sl_to {ns : List Int} {t : Int} (h0 : 0 ≤ t) (h1 : t ≤ ns.length) : slD (tupI ns) none (some t) = tupI (ns.take t.toNat) := by
  show D.tup (cutD (ns.map D.int) none (some t)) = _
  rw [cut_to h0 h1]
  rfl
theorem sl_from {ns : List Int} {t : Int} (h0 : 0 ≤ t) (h1 : t ≤ ns.length) : slD (tupI ns) (some t) none = tupI (ns.drop t.toNat) := by
  show D.tup (cutD (ns.map D.int) (some t) none) = _
  rw [cut_from h0 h1]
  rfl
theorem sl_some (ns : List Int) (lo hi : Option Int) : ∃ ks : List Int, slD (tupI ns) lo hi = tupI ks ∧ ks.Sublist ns := by
  obtain ⟨ks, e, h⟩ := cut_sub ns lo hi
  exact ⟨ks, by show D.tup (cutD (ns.map D.int) lo hi) = _; rw [e]; rfl, h⟩
theorem plus_ok {a b : List Int} (h : a.length + b.length ≤ 10000) : cPlus (tupI a) (tupI b) := by
  show (a.map D.int).length + (b.map D.int).length ≤ line
  rw [List.length_map, List.length_map]
  unfold line
  omega

/-! pairs as data -/
def pyP (p : Int × Int) : PyData := .tuple [.int p.1, .int p.2]
theorem toPy_pair (p : Int × Int) : toPy (pairD p) = some (pyP p) := rfl
theorem toPys_pairs : ∀ ps : List (Int × Int), toPys (ps.map pairD) = some (ps.map pyP)
  | [] => rfl
  | p :: ps => by
    have ih := toPys_pairs ps
    rw [List.map_cons, toPys, ih, toPy_pair]
    rfl
theorem layP : ∀ ps : List (Int × Int), PyData.canLayAll0 (ps.map pyP) = true
  | [] => rfl
  | p :: ps => by
    rw [List.map_cons, PyData.canLayAll0, layP ps]
    rfl
theorem depP : ∀ ps : List (Int × Int), PyData.depthAll (ps.map pyP) ≤ 1
  | [] => by show PyData.depthAll [] ≤ 1; simp only [PyData.depthAll]; decide
  | p :: ps => by
    have ih := depP ps
    have h1 : (pyP p).depth ≤ 1 := by
      show PyData.depth (.tuple [.int p.1, .int p.2]) ≤ 1
      simp only [PyData.depth, PyData.depthAll]
      decide
    rw [List.map_cons, PyData.depthAll]
    omega
theorem shP (ps : List (Int × Int)) : SeqAt.shaped (.list (ps.map pyP)) = true := by
  have := depP ps
  simp only [SeqAt.shaped, PyData.canLay0, PyData.depth, layP]
  simp
  omega
theorem shp1 (p : Int × Int) : SeqAt.shaped (pyP p) = true := by
  show SeqAt.shaped (.tuple [.int p.1, .int p.2]) = true
  simp only [SeqAt.shaped, PyData.canLay0, PyData.depth, PyData.canLayAll0, PyData.depthAll]
  rfl
theorem toPy_lstP (ps : List (Int × Int)) : toPy (.lst (ps.map pairD)) = some (.list (ps.map pyP)) := by
  simp only [toPy, toPys_pairs, Option.map_some]
theorem cIn_pairs (p : Int × Int) (ps : List (Int × Int)) : cInD (pairD p) (.lst (ps.map pairD)) := ⟨_, _, toPy_pair p, toPy_lstP ps, shp1 p, shP ps⟩
theorem eqv_pair (p q : Int × Int) : PyData.eqv (pyP p) (pyP q) = decide (p = q) := by
  obtain ⟨a, b⟩ := p
  obtain ⟨c, d⟩ := q
  show (a == c && (b == d && true)) = _
  by_cases h1 : a = c <;> by_cases h2 : b = d <;> simp [h1, h2]
theorem in_pairs (p : Int × Int) (ps : List (Int × Int)) : inD (pairD p) (.lst (ps.map pairD)) = decide (p ∈ ps) := by
  rw [inD_of (toPy_pair p) (toPy_lstP ps), List.any_map, Bool.eq_iff_iff, List.any_eq_true, decide_eq_true_eq]
  constructor
  · rintro ⟨q, hq, e⟩
    have e2 : PyData.eqv (pyP q) (pyP p) = true := e
    rw [eqv_pair, decide_eq_true_eq] at e2
    exact e2 ▸ hq
  · intro h
    exact ⟨p, h, by show PyData.eqv (pyP p) (pyP p) = true; rw [eqv_pair]; simp⟩
/-! lists with nothing in them -/
theorem cEq_nil {α : Type} (f : α → D) (g : α → PyData) (h : ∀ l : List α, toPy (.lst (l.map f)) = some (.list (l.map g))) (s : ∀ l : List α, SeqAt.shaped (.list (l.map g)) = true) (l : List α) : cEq (.lst (l.map f)) (.lst []) := ⟨_, .list [], h l, rfl, s l, by decide⟩
theorem eq_nil {α : Type} (f : α → D) (g : α → PyData) (h : ∀ l : List α, toPy (.lst (l.map f)) = some (.list (l.map g))) (l : List α) : eqD (.lst (l.map f)) (.lst []) = l.isEmpty := by
  rw [eqD_of (h l) (q := .list []) rfl]
  cases l with
  | nil => simp [PyData.eqv, PyData.eqvAll]
  | cons a l => simp [PyData.eqv, PyData.eqvAll]
section
variable {Q E : D → Prop}
theorem toPy_lstI (ns : List Int) : toPy (.lst (ns.map D.int)) = some (.list (ns.map PyData.int)) := by
  simp only [toPy, toPys_ints, Option.map_some]
theorem shI (ns : List Int) : SeqAt.shaped (.list (ns.map PyData.int)) = true := by
  simp only [SeqAt.shaped, PyData.canLay0, PyData.depth, layI, depI]
  decide
theorem rgD_rg0 (n : Nat) : rgD 0 n = (rg0 n).map D.int := by
  unfold rgD rg0
  rw [List.map_map, show ((n : Int) - 0).toNat = n by omega]
  refine List.map_congr_left fun i _ => ?_
  show D.int (0 + (i : Int)) = D.int i
  rw [Int.zero_add]
theorem rg0_len (n : Nat) : (rg0 n).length = n := by unfold rg0; rw [List.length_map, List.length_range]
theorem rg0_nodup (n : Nat) : (rg0 n).Nodup := (rg0_asc n).imp fun h e => by omega
/-! pairs drawn -/
def GoodP (n : Nat) (P : List (Int × Int)) : Prop := P.Nodup ∧ ∀ p ∈ P, (0 ≤ p.1 ∧ p.1 < n) ∧ 0 ≤ p.2 ∧ p.2 < n
theorem nodup_leG {α : Type} [DecidableEq α] : ∀ (out ns : List α), out.Nodup → (∀ x ∈ out, x ∈ ns) → out.length ≤ ns.length
  | [], _, _, _ => Nat.zero_le _
  | x :: xs, ns, nd, h => by
    have hx := h x List.mem_cons_self
    rw [List.nodup_cons] at nd
    have := nodup_leG xs (ns.erase x) nd.2 fun y hy => (List.mem_erase_of_ne fun e => nd.1 (by rw [← e]; exact hy)).mpr (h y (List.mem_cons_of_mem _ hy))
    rw [List.length_erase_of_mem hx] at this
    have := List.length_pos_of_mem hx
    rw [List.length_cons]
    omega
theorem GoodP.len {n : Nat} {P : List (Int × Int)} (G : GoodP n P) : P.length ≤ n * n := by
  have := nodup_leG P ((rg0 n).flatMap fun a => (rg0 n).map fun b => (a, b)) G.1 fun p hp => by
    obtain ⟨h1, h2⟩ := G.2 p hp
    exact List.mem_flatMap.mpr ⟨p.1, rg0_mem.mpr h1, List.mem_map.mpr ⟨p.2, rg0_mem.mpr h2, rfl⟩⟩
  have e : ((rg0 n).flatMap fun a => (rg0 n).map fun b => (a, b)).length = n * n := by
    rw [List.length_flatMap]
    simp only [List.length_map, rg0_len, List.map_const', List.sum_replicate_nat]
  omega
theorem split_rg0 {n : Nat} {done left : List Int} {x : Int} (e : done ++ x :: left = rg0 n) : x ∉ done ∧ (0 ≤ x ∧ x < n) ∧ (done ++ [x]) ++ left = rg0 n := by
  refine ⟨fun z => ?_, rg0_mem.mp (by rw [← e]; simp), by rw [List.append_assoc]; exact e⟩
  have nd := rg0_nodup n
  rw [← e] at nd
  exact (List.nodup_append.mp nd).2.2 x z x List.mem_cons_self rfl
end

def skD (n : Nat) (P : List (Int × Int)) (st en : D) : D := .dic [(.str "labels", .int n), (.str "pairs", .lst (P.map pairD)), (.str "starts", st), (.str "ends", en)]
/-- what stands for starts and ends: none at all, or labels -/
def Ends2 (n : Nat) (st en : D) : Prop := (st = .non ∧ en = .non) ∨ ∃ s e : List Int, st = .lst (s.map D.int) ∧ en = .lst (e.map D.int) ∧ s.Nodup ∧ e.Nodup ∧ (∀ x ∈ s, 0 ≤ x ∧ x < n) ∧ ∀ x ∈ e, 0 ≤ x ∧ x < n
section
variable {Q E : D → Prop}
end

section
variable {Q E : D → Prop}
theorem isi_seq (d : D) : (isiB "list" d || isiB "tuple" d) = isSeq d := by
  cases d <;> rfl
def labB (n : Int) (d : D) : Bool := isSeq d && ((seqD d).all (fun x => btw x 0 (n - 1)) && decide (dCount ((intsD (seqD d)).getD []) = (seqD d).length))
def okSeq (d : D) : Prop := (tyNm d).isSome = true ∧ (∀ x ∈ seqD d, (tyNm x).isSome = true) ∧ (seqD d).length ≤ 4000
theorem all_id (p : D → Bool) (xs : List D) : ((blsD (seqD (.lst (xs.map fun x => D.bl (p x))))).getD []).all _root_.id = xs.all p := by
  show ((blsD (xs.map fun x => D.bl (p x))).getD []).all _root_.id = _
  rw [blsD_map]
  show (xs.map p).all _root_.id = _
  rw [List.all_map]
  rfl
theorem labB_good {n : Nat} {ns : List Int} (nd : ns.Nodup) (rg : ∀ x ∈ ns, 0 ≤ x ∧ x < n) : labB n (.lst (ns.map D.int)) = true ∧ labB n (.tup (ns.map D.int)) = true := by
  have h1 : (ns.map D.int).all (fun x => btw x 0 ((n : Int) - 1)) = true := btwI fun x hx => by have := rg x hx; omega
  have h2 : decide (dCount ((intsD (ns.map D.int)).getD []) = (ns.map D.int).length) = true := by
    rw [intsD_map]
    show decide (dCount ns = _) = true
    rw [dCount_nodup nd, List.length_map]
    simp
  constructor
  · unfold labB
    show (true && ((ns.map D.int).all (fun x => btw x 0 ((n : Int) - 1)) && decide (dCount ((intsD (ns.map D.int)).getD []) = (ns.map D.int).length))) = true
    rw [h1, h2]
    rfl
  · unfold labB
    show (true && ((ns.map D.int).all (fun x => btw x 0 ((n : Int) - 1)) && decide (dCount ((intsD (ns.map D.int)).getD []) = (ns.map D.int).length))) = true
    rw [h1, h2]
    rfl
theorem okSeqL {ns : List Int} (h : ns.length ≤ 4000) : okSeq (.lst (ns.map D.int)) ∧ okSeq (.tup (ns.map D.int)) :=
  ⟨⟨rfl, fun x hx => by obtain ⟨n, _, rfl⟩ := List.mem_map.mp hx; rfl, by show (ns.map D.int).length ≤ _; rw [List.length_map]; exact h⟩,
    ⟨rfl, fun x hx => by obtain ⟨n, _, rfl⟩ := List.mem_map.mp hx; rfl, by show (ns.map D.int).length ≤ _; rw [List.length_map]; exact h⟩⟩
/-! pairs judged -/
theorem pr_inj {a b : Int × Int} (h : ([a.1, a.2] : List Int) = [b.1, b.2]) : a = b := by
  injection h with h1 h2
  injection h2 with h2 _
  exact Prod.ext h1 h2
theorem srt_pairs (P : List (Int × Int)) : cSrt (.lst (P.map pairD)) ∧ fSrt (.lst (P.map pairD)) = .lst ((srtP P).map pairD) := by
  refine ⟨⟨rfl, .inr (by show (pairsD (P.map pairD)).isSome = true; rw [pairsD_map]; rfl)⟩, ?_⟩
  unfold fSrt
  show (match intsD (P.map pairD) with | some ns => D.lst ((srtI ns).map D.int) | none => match pairsD (P.map pairD) with | some ps => D.lst ((srtP ps).map pairD) | none => D.non) = _
  cases P with
  | nil =>
    show D.lst ((srtI []).map D.int) = D.lst ((srtP []).map pairD)
    simp [srtI, srtP]
  | cons p P =>
    have e : intsD ((p :: P).map pairD) = none := rfl
    rw [e, pairsD_map]
theorem srt_ints (ns : List Int) : cSrt (.lst (ns.map D.int)) ∧ fSrt (.lst (ns.map D.int)) = .lst ((srtI ns).map D.int) := by
  refine ⟨⟨rfl, .inl (by show (intsD (ns.map D.int)).isSome = true; rw [intsD_map]; rfl)⟩, ?_⟩
  unfold fSrt
  show (match intsD (ns.map D.int) with | some ns => D.lst ((srtI ns).map D.int) | none => _) = _
  rw [intsD_map]
end

def behI (SP : List (Int × Int)) (v : Int) : List Int := (SP.filter fun p => decide (p.1 = v)).map (·.2)
theorem beh_app (A : List (Int × Int)) (p : Int × Int) (v : Int) : behI (A ++ [p]) v = if p.1 = v then behI A v ++ [p.2] else behI A v := by
  unfold behI
  rw [List.filter_append, List.map_append, List.filter_cons]
  by_cases h : p.1 = v
  · simp [h]
  · simp [h]
theorem beh_len (A : List (Int × Int)) (v : Int) : (behI A v).length ≤ A.length := by
  unfold behI
  rw [List.length_map]
  exact List.length_filter_le _ _
theorem lc_news {f : MG} {envW : MEnv} {Qf : List W → Sto → Prop} : ∀ (items : List D) (acc : List W) (S : Sto), acc.length + items.length ≤ line → (∀ x ∈ items, ∃ e2, f x envW = some e2) →
    Qf (acc ++ (List.range' S.length items.length).map W.ref) (S ++ List.replicate items.length (.lst [])) → lcM (fun _ => True) f mYes (mLstN aNil) envW items acc S Qf
  | [], acc, S, _, _, q => by
    have : Qf acc S := by simpa using q
    exact ⟨trivial, this⟩
  | x :: xs, acc, S, hl, h, q => by
    obtain ⟨e2, h1⟩ := h x List.mem_cons_self
    rw [List.length_cons] at hl
    refine ⟨trivial, e2, h1, ?_⟩
    show (if (true : Bool) = true then mLstN aNil e2 S (fun w S3 => acc.length < line ∧ lcM (fun _ => True) f mYes (mLstN aNil) envW xs (acc ++ [w]) S3 Qf) (fun _ => False) else lcM (fun _ => True) f mYes (mLstN aNil) envW xs acc S Qf)
    rw [if_pos rfl]
    refine ⟨Nat.zero_le _, by omega, lc_news xs (acc ++ [.ref S.length]) (S ++ [.lst []]) (by rw [List.length_append]; show acc.length + 1 + xs.length ≤ line; omega) (fun y hy => h y (List.mem_cons_of_mem _ hy)) ?_⟩
    have e1 : (acc ++ [W.ref S.length]) ++ (List.range' (S ++ [O.lst []]).length xs.length).map W.ref = acc ++ (List.range' S.length (x :: xs).length).map W.ref := by
      rw [List.append_assoc, show (S ++ [O.lst []]).length = S.length + 1 by simp]
      show _ = acc ++ (List.range' S.length (xs.length + 1)).map W.ref
      rw [List.range'_succ]
      rfl
    have e2 : (S ++ [O.lst []]) ++ List.replicate xs.length (O.lst []) = S ++ List.replicate (x :: xs).length (O.lst []) := by
      rw [List.append_assoc, List.length_cons, List.replicate_succ]
      rfl
    rw [e1, e2]
    exact q
def rowsO (n : Nat) (A : List (Int × Int)) : Sto := (List.range n).map fun (i : Nat) => O.lst (((behI A i).map D.int).map W.d)
def refsW (n : Nat) : List W := (List.range' 0 n).map W.ref
theorem rows_len (n : Nat) (A : List (Int × Int)) : (rowsO n A).length = n := by simp [rowsO]
theorem rows_at {n : Nat} {A : List (Int × Int)} {T : Sto} {i : Nat} (h : i < n) : (rowsO n A ++ T)[i]? = some (.lst (((behI A i).map D.int).map W.d)) := by
  rw [List.getElem?_append_left (by rw [rows_len]; exact h)]
  unfold rowsO
  rw [List.getElem?_map, List.getElem?_range h]
  rfl
theorem rows_end (n : Nat) (A : List (Int × Int)) (o : O) : (rowsO n A ++ [o])[n]? = some o := by
  rw [List.getElem?_append_right (by rw [rows_len]; exact Nat.le_refl _), rows_len, Nat.sub_self]
  rfl
theorem rows_set {n : Nat} {A : List (Int × Int)} {T : Sto} {p : Int × Int} (h0 : 0 ≤ p.1) (h1 : p.1 < n) : (rowsO n A ++ T).set p.1.toNat (.lst (((behI A p.1).map D.int).map W.d ++ [.d (.int p.2)])) = rowsO n (A ++ [p]) ++ T := by
  rw [List.set_append_left _ _ (by rw [rows_len]; omega)]
  refine congrArg (· ++ T) (List.ext_getElem? fun i => ?_)
  by_cases hi : i < n
  · have e0 : (rowsO n (A ++ [p]))[i]? = some (.lst (((behI (A ++ [p]) i).map D.int).map W.d)) := by
      unfold rowsO
      rw [List.getElem?_map, List.getElem?_range hi]
      rfl
    rw [e0, beh_app]
    by_cases e : p.1.toNat = i
    · subst e
      rw [List.getElem?_set_self (by rw [rows_len]; omega)]
      have e2 : ((p.1.toNat : Nat) : Int) = p.1 := by omega
      rw [if_pos e2.symm, e2, List.map_append, List.map_append]
      rfl
    · rw [List.getElem?_set_ne e, if_neg (by omega)]
      unfold rowsO
      rw [List.getElem?_map, List.getElem?_range hi]
      rfl
  · rw [List.getElem?_eq_none (by rw [List.length_set, rows_len]; omega), List.getElem?_eq_none (by rw [rows_len]; omega)]
theorem refs_at {n : Nat} {j : Int} (h0 : 0 ≤ j) (h1 : j < n) : L2.atI (refsW n) j = some (.ref j.toNat) := by
  have hl : (refsW n).length = n := by simp [refsW]
  unfold L2.atI ixN
  rw [if_pos h0, hl, if_pos h1]
  show (refsW n)[j.toNat]? = _
  unfold refsW
  rw [List.getElem?_map, List.getElem?_range' (by omega)]
  simp
section
variable {Q E : D → Prop}
def behD (n : Nat) (SP : List (Int × Int)) : D := .lst ((rg0 n).map fun v => .lst ((behI SP v).map D.int))
theorem dp_rows (n : Nat) (A : List (Int × Int)) : dp 4 (rowsO n A ++ [.lst (refsW n)]) (.ref n) = some (behD n A) := by
  show (match (rowsO n A ++ [O.lst (refsW n)])[n]? with | some (.lst ws) => (mapO (dp 3 _) ws).map D.lst | some (.frz x) => some x | _ => none) = _
  rw [rows_end]
  show (mapO (dp 3 _) (refsW n)).map D.lst = _
  have go : ∀ (l : List Nat), (∀ i ∈ l, i < n) → mapO (dp 3 (rowsO n A ++ [.lst (refsW n)])) (l.map W.ref) = some (l.map fun (i : Nat) => D.lst ((behI A i).map D.int)) := by
    intro l
    induction l with
    | nil => intro _; rfl
    | cons i l ih =>
      intro h
      rw [List.map_cons, List.map_cons]
      unfold mapO
      have e : dp 3 (rowsO n A ++ [.lst (refsW n)]) (.ref i) = some (D.lst ((behI A i).map D.int)) := by
        show (match (rowsO n A ++ [O.lst (refsW n)])[i]? with | some (.lst ws) => (mapO (dp 2 _) ws).map D.lst | some (.frz x) => some x | _ => none) = _
        rw [rows_at (h i List.mem_cons_self)]
        show (mapO (dp 2 _) (((behI A i).map D.int).map W.d)).map D.lst = _
        rw [mapO_dp]
        rfl
      rw [e, ih fun j hj => h j (List.mem_cons_of_mem _ hj)]
  have := go (List.range' 0 n) fun i hi => by
    have := List.mem_range'_1.mp hi
    omega
  unfold refsW
  rw [show ((List.range' 0 n).map W.ref) = (List.range' 0 n).map W.ref from rfl]
  unfold refsW at this
  rw [this]
  unfold behD rg0
  rw [List.map_map, ← List.range_eq_range']
  rfl
theorem srtP_mem {P : List (Int × Int)} {p : Int × Int} : p ∈ srtP P ↔ p ∈ P := by unfold srtP; exact List.mem_mergeSort
theorem srtP_len (P : List (Int × Int)) : (srtP P).length = P.length := (List.mergeSort_perm P _).length_eq
end

theorem rng_at (g : Nat → D) {m : Nat} {j : Int} (h0 : 0 ≤ j) (h1 : j < m) : L2.atI ((List.range m).map g) j = some (g j.toNat) := by
  have hl : ((List.range m).map g).length = m := by rw [List.length_map, List.length_range]
  rw [atI_pos h0 (by rw [hl]; exact h1), List.getD_eq_getElem?_getD, List.getElem?_map, List.getElem?_range (by omega)]
  rfl
theorem rg_at (g : Int → D) {n : Nat} {v : Int} (h0 : 0 ≤ v) (h1 : v < n) : L2.atI ((rg0 n).map g) v = some (g v) := by
  unfold rg0
  rw [List.map_map, rng_at _ h0 h1]
  show some (g ((v.toNat : Nat) : Int)) = _
  rw [show ((v.toNat : Nat) : Int) = v by omega]
theorem last_at (g : Nat → D) (k : Nat) : L2.atI ((List.range (k + 1)).map g) (-1) = some (g k) := by
  have hl : ((List.range (k + 1)).map g).length = k + 1 := by rw [List.length_map, List.length_range]
  unfold L2.atI ixN
  rw [if_neg (by decide), hl, if_pos (by omega)]
  show ((List.range (k + 1)).map g)[((k + 1 : Nat) + (-1 : Int)).toNat]? = _
  rw [show (((k + 1 : Nat) : Int) + (-1 : Int)).toNat = k by omega, List.getElem?_map, List.getElem?_range (by omega)]
  rfl
theorem ends_at (xs : List D) (x : D) : L2.atI (xs ++ [x]) (-1) = some x := by
  have hl : (xs ++ [x]).length = xs.length + 1 := by simp
  unfold L2.atI ixN
  rw [if_neg (by decide), hl, if_pos (by omega)]
  show (xs ++ [x])[((-1 : Int) + ((xs.length + 1 : Nat) : Int)).toNat]? = _
  rw [show ((-1 : Int) + ((xs.length + 1 : Nat) : Int)).toNat = xs.length by omega, List.getElem?_append_right (Nat.le_refl _), Nat.sub_self]
  rfl
theorem head_at (x : D) (xs : List D) : L2.atI (x :: xs) 0 = some x := by
  rw [atI_pos (by decide) (by rw [List.length_cons]; omega)]
  rfl
theorem ixl_at {xs : List D} {i : Int} {d : D} (h : L2.atI xs i = some d) : fIx (.lst xs) (.int i) = d := by
  show (L2.atI xs i).getD D.non = d
  rw [h]
  rfl
def leadT (n : Nat) (beh : Int → List Int) (E : Int → Bool) (k : Nat) : D := .tup ((rg0 n).map fun v => .bl (leadR beh E k v))
def walkD : Option (List Int) → D
  | none => .non
  | some w => .tup (w.map D.int)
def isAny (p : D → Bool) (xs : List D) : Bool := xs.any p
theorem blsI (p : Int → Bool) : ∀ xs : List Int, blsD (xs.map fun x => D.bl (p x)) = some (xs.map p)
  | [] => rfl
  | x :: xs => by
    show (blsD (xs.map fun x => D.bl (p x))).map (p x :: ·) = _
    rw [blsI p xs]
    rfl
theorem any_id (p : Int → Bool) (xs : List Int) : ((blsD (seqD (.lst (xs.map fun x => D.bl (p x))))).getD []).any _root_.id = xs.any p := by
  show ((blsD (xs.map fun x => D.bl (p x))).getD []).any _root_.id = _
  rw [blsI]
  show (xs.map p).any _root_.id = _
  rw [List.any_map]
  rfl
theorem down_succ (i : Nat) : downD (((i + 1 : Nat) : Int) - 1) (i + 1) = .int i :: downD ((i : Int) - 1) i := by
  unfold downD
  rw [List.range_succ_eq_map, List.map_cons, List.map_map]
  refine congr (congrArg List.cons ?_) (List.map_congr_left fun k _ => ?_)
  · show D.int (((i + 1 : Nat) : Int) - 1 - ((0 : Nat) : Int)) = D.int i
    exact congrArg D.int (by omega)
  · show D.int (((i + 1 : Nat) : Int) - 1 - ((k + 1 : Nat) : Int)) = D.int ((i : Int) - 1 - k)
    exact congrArg D.int (by omega)
section
variable {Q E : D → Prop}
def leadsD (n : Nat) (beh : Int → List Int) (F : Int → Bool) (k : Nat) : List D := (List.range (k + 1)).map (leadT n beh F)
theorem leads_snoc (n : Nat) (beh : Int → List Int) (F : Int → Bool) (k : Nat) : leadsD n beh F k ++ [leadT n beh F (k + 1)] = leadsD n beh F (k + 1) := by
  unfold leadsD
  rw [List.range_succ (n := k + 1), List.map_append]
  rfl
end

theorem beh_mem {P : List (Int × Int)} {v w : Int} : w ∈ behI (srtP P) v ↔ (v, w) ∈ P := by
  unfold behI
  constructor
  · intro h
    obtain ⟨p, hp, rfl⟩ := List.mem_map.mp h
    obtain ⟨h1, h2⟩ := List.mem_filter.mp hp
    have e : p.1 = v := of_decide_eq_true h2
    rw [← e]
    exact srtP_mem.mp h1
  · intro h
    exact List.mem_map.mpr ⟨(v, w), List.mem_filter.mpr ⟨srtP_mem.mpr h, by simp⟩, rfl⟩
theorem srtP_asc (P : List (Int × Int)) : (srtP P).Pairwise fun a b => a.1 < b.1 ∨ (a.1 = b.1 ∧ a.2 ≤ b.2) := by
  unfold srtP
  have t := List.pairwise_mergeSort (le := fun a b : Int × Int => !lexB b a) (fun a b c x y => by
    simp only [Bool.not_eq_true', lexB_no] at *
    omega) (fun a b => by
    simp only [Bool.or_eq_true, Bool.not_eq_true', lexB_no]
    omega) P
  exact t.imp fun h => by
    simp only [Bool.not_eq_true', lexB_no] at h
    omega
theorem beh_asc {P : List (Int × Int)} (nd : P.Nodup) (v : Int) : (behI (srtP P) v).Pairwise (· < ·) := by
  unfold behI
  rw [List.pairwise_map]
  have nd2 : (srtP P).Nodup := (List.mergeSort_perm P _).nodup_iff.mpr nd
  have both := (srtP_asc P).and (List.nodup_iff_pairwise_ne.mp nd2)
  refine (both.filter _).imp_of_mem fun {a b} ha hb h => ?_
  have ea : a.1 = v := of_decide_eq_true (List.mem_filter.mp ha).2
  have eb : b.1 = v := of_decide_eq_true (List.mem_filter.mp hb).2
  rcases h.1 with z | ⟨_, z⟩
  · omega
  · have : a.2 ≠ b.2 := fun e => h.2 (Prod.ext (ea.trans eb.symm) e)
    omega
theorem srtI_asc {bs : List Int} (nd : bs.Nodup) : (srtI bs).Pairwise (· < ·) := by
  have nd2 : (srtI bs).Nodup := (List.mergeSort_perm bs _).nodup_iff.mpr nd
  have t := List.pairwise_mergeSort (le := fun a b : Int => decide (a ≤ b)) (fun a b c x y => by simp only [decide_eq_true_eq] at *; omega) (fun a b => by simp only [Bool.or_eq_true, decide_eq_true_eq]; omega) bs
  have t2 : (srtI bs).Pairwise fun a b => decide (a ≤ b) = true := t
  exact (t2.and (List.nodup_iff_pairwise_ne.mp nd2)).imp fun h => by
    have := of_decide_eq_true h.1
    have := h.2
    omega
theorem srtI_mem {bs : List Int} {x : Int} : x ∈ srtI bs ↔ x ∈ bs := by unfold srtI; exact List.mem_mergeSort
section
variable {n : Nat} {P : List (Int × Int)} {F : Int → Bool} {bs : List Int}
/-- the row of the labels that lead to an end in k steps; the next one behind it -/
theorem led_next (G : GoodP n P) (k : Nat) : ((rg0 n).filter fun l => !(((ledL (behI (srtP P)) F n k).filter fun w => decide ((l, w) ∈ P)).isEmpty)) = ledL (behI (srtP P)) F n (k + 1) := by
  unfold ledL
  refine List.filter_congr fun v hv => ?_
  rw [leadR_succ, Bool.eq_iff_iff]
  constructor
  · intro h
    cases e : ((rg0 n).filter (leadR (behI (srtP P)) F k)).filter fun w => decide ((v, w) ∈ P) with
    | nil => rw [e] at h; cases h
    | cons w ws =>
      have hw : w ∈ ((rg0 n).filter (leadR (behI (srtP P)) F k)).filter fun w => decide ((v, w) ∈ P) := by rw [e]; exact List.mem_cons_self
      obtain ⟨h1, h2⟩ := List.mem_filter.mp hw
      exact List.any_eq_true.mpr ⟨w, beh_mem.mpr (of_decide_eq_true h2), (List.mem_filter.mp h1).2⟩
  · intro h
    obtain ⟨w, w1, w2⟩ := List.any_eq_true.mp h
    have hp := beh_mem.mp w1
    have hr := (G.2 _ hp).2
    have hw : w ∈ ((rg0 n).filter (leadR (behI (srtP P)) F k)).filter fun w => decide ((v, w) ∈ P) := List.mem_filter.mpr ⟨List.mem_filter.mpr ⟨rg0_mem.mpr hr, w2⟩, by simpa using hp⟩
    cases e : ((rg0 n).filter (leadR (behI (srtP P)) F k)).filter fun w => decide ((v, w) ∈ P) with
    | nil => rw [e] at hw; cases hw
    | cons w ws => rfl
theorem first_eq (bn : bs.Nodup) (hb : ∀ x ∈ bs, 0 ≤ x ∧ x < n) (k : Nat) : ((ledL (behI (srtP P)) F n k).filter fun l => decide (l ∈ bs)) = (srtI bs).filter (leadR (behI (srtP P)) F k) := by
  unfold ledL
  refine asc_eq (((rg0_asc n).filter _).filter _) ((srtI_asc bn).filter _) fun x => ?_
  simp only [List.mem_filter, decide_eq_true_eq, srtI_mem, rg0_mem]
  exact ⟨fun h => ⟨h.2, h.1.2⟩, fun h => ⟨⟨hb x h.1, h.2⟩, h.1⟩⟩
theorem next_eq (G : GoodP n P) (u : Int) (k : Nat) : ((ledL (behI (srtP P)) F n k).filter fun l => decide ((u, l) ∈ P)) = (behI (srtP P) u).filter (leadR (behI (srtP P)) F k) := by
  unfold ledL
  refine asc_eq (((rg0_asc n).filter _).filter _) ((beh_asc G.1 u).filter _) fun x => ?_
  simp only [List.mem_filter, decide_eq_true_eq, rg0_mem, beh_mem]
  exact ⟨fun h => ⟨h.2, h.1.2⟩, fun h => ⟨⟨(G.2 _ h.1).2, h.2⟩, h.1⟩⟩
end
def fitsL (n : Nat) (beh : Int → List Int) (F : Int → Bool) : Nat → List D
  | 0 => [.lst ((ledL beh F n 0).map D.int)]
  | k + 1 => .lst ((ledL beh F n (k + 1)).map D.int) :: fitsL n beh F k
theorem fits_len (n : Nat) (beh : Int → List Int) (F : Int → Bool) : ∀ k : Nat, (fitsL n beh F k).length = k + 1
  | 0 => rfl
  | k + 1 => congrArg (· + 1) (fits_len n beh F k)
theorem fits_head (n : Nat) (beh : Int → List Int) (F : Int → Bool) (k : Nat) : L2.atI (fitsL n beh F k) 0 = some (.lst ((ledL beh F n k).map D.int)) := by
  cases k with
  | zero => exact head_at _ _
  | succ k => exact head_at _ _

theorem rowsA_len (n : Nat) : ∀ k : Nat, (rowsA n k).length = n ^ k
  | 0 => rfl
  | k + 1 => by
    show ((rowsA n k).flatMap fun row => (rg0 n).map fun l => row ++ [l]).length = _
    rw [List.length_flatMap]
    simp only [List.length_map, rg0_len, List.map_const', List.sum_replicate_nat, rowsA_len n k, Nat.pow_succ]
theorem rowsA_row {n : Nat} : ∀ {k : Nat} {row : List Int}, row ∈ rowsA n k → row.length = k
  | 0, row, h => by
    have : row = [] := by simpa [rowsA] using h
    rw [this]
    rfl
  | k + 1, row, h => by
    obtain ⟨r0, h0, h1⟩ := List.mem_flatMap.mp (show row ∈ (rowsA n k).flatMap fun row => (rg0 n).map fun l => row ++ [l] from h)
    obtain ⟨l, _, rfl⟩ := List.mem_map.mp h1
    rw [List.length_append, rowsA_row h0]
    rfl
def extA (n : Nat) (row : List Int) : List (List Int) := (rg0 n).map fun l => row ++ [l]
section
variable {Q E : D → Prop}
end

theorem filt_rows (p : List Int → Bool) (p' : D → Bool) (h : ∀ r, p' (tupI r) = p r) : ∀ nss : List (List Int), (nss.map tupI).filter p' = (nss.filter p).map tupI
  | [] => rfl
  | r :: nss => by
    rw [List.map_cons, List.filter_cons, List.filter_cons, h, filt_rows p p' h nss]
    split <;> rfl
/-- a comprehension over rows that keeps some of them -/
theorem lc_rows {gd : Sto → Prop} {f : MG} {tt : MT} {te : MX} {envW : MEnv} {S : Sto} {Pp : List D → Sto → Prop} (gS : gd S) (p : List Int → Bool) (nss : List (List Int)) (hl : nss.length ≤ line)
    (h : ∀ r ∈ nss, ∃ env2, f (tupI r) envW = some env2 ∧ (∀ (Q' : Bool → Sto → Prop), Q' (p r) S → tt env2 S Q' (fun _ => False)) ∧ (p r = true → ∀ (Q' : W → Sto → Prop), Q' (.d (tupI r)) S → te env2 S Q' (fun _ => False)))
    (q : Pp ((nss.filter p).map tupI) S) : lcM gd f tt te envW (nss.map tupI) [] S (fun ws S2 => ∃ xs, datas ws = some xs ∧ Pp xs S2) := by
  have it : ∀ r, intsT (tupI r) = some r := fun r => intsD_map r
  refine lc_selp gS (fun d => p ((intsT d).getD [])) _root_.id (nss.map tupI) (by rw [List.length_map]; exact hl) (fun x hx => ?_) ?_
  · obtain ⟨r, hr, rfl⟩ := List.mem_map.mp hx
    have := h r hr
    show ∃ env2, f (tupI r) envW = some env2 ∧ (∀ (Q' : Bool → Sto → Prop), Q' (p ((intsT (tupI r)).getD [])) S → tt env2 S Q' (fun _ => False)) ∧ (p ((intsT (tupI r)).getD []) = true → ∀ (Q' : W → Sto → Prop), Q' (.d (tupI r)) S → te env2 S Q' (fun _ => False))
    rw [it]
    exact this
  · rw [filt_rows p _ (fun r => by show p ((intsT (tupI r)).getD []) = _; rw [it]; rfl), List.map_id]
    exact q
theorem okW_eq {F : Int → Bool} {pr : Int → Int → Bool} : ∀ {row : List Int}, row ≠ [] → okW F pr row = ((row.zip row.tail).all (fun q => pr q.1 q.2) && F (row.getLastD 0))
  | [], h => absurd rfl h
  | [v], _ => rfl
  | v :: w :: r, _ => by
    have ih := okW_eq (F := F) (pr := pr) (row := w :: r) (by simp)
    show (pr v w && okW F pr (w :: r)) = ((pr v w && ((w :: r).zip r).all fun q => pr q.1 q.2) && F ((v :: w :: r).getLastD 0))
    rw [ih]
    have e : (v :: w :: r).getLastD 0 = (w :: r).getLastD 0 := by simp [List.getLastD]
    rw [e, Bool.and_assoc]
    rfl
theorem zip_pairs : ∀ a b : List Int, zipD (a.map D.int) (b.map D.int) = (a.zip b).map pairD
  | [], b => by simp [zipD]
  | a :: as, [] => by simp [zipD]
  | x :: a, y :: b => by
    have ih := zip_pairs a b
    show D.tup [.int x, .int y] :: zipD (a.map D.int) (b.map D.int) = _
    rw [ih]
    rfl
theorem last_split : ∀ {row : List Int}, row ≠ [] → ∃ ini, row = ini ++ [row.getLastD 0]
  | [], h => absurd rfl h
  | [v], _ => ⟨[], rfl⟩
  | v :: w :: r, _ => by
    obtain ⟨ini, e⟩ := last_split (row := w :: r) (by simp)
    have e2 : (v :: w :: r).getLastD 0 = (w :: r).getLastD 0 := by simp [List.getLastD]
    exact ⟨v :: ini, by rw [e2]; exact congrArg (v :: ·) e⟩
theorem last_row {row : List Int} (h : row ≠ []) : L2.atI (row.map D.int) (-1) = some (.int (row.getLastD 0)) := by
  obtain ⟨ini, e⟩ := last_split h
  have m : row.map D.int = ini.map D.int ++ [.int (row.getLastD 0)] := by
    have := congrArg (List.map D.int) e
    rw [List.map_append] at this
    exact this
  rw [m]
  exact ends_at _ _
theorem first_row {row : List Int} (h : row ≠ []) : L2.atI (row.map D.int) 0 = some (.int (row.headD 0)) := by
  cases row with
  | nil => exact absurd rfl h
  | cons a r => exact head_at _ _
/-- the pairs that are none of P: none at all -/
theorem no_gaps (P : List (Int × Int)) (l : List (Int × Int)) : (l.filter fun q => !decide (q ∈ P)).isEmpty = l.all fun q => decide (q ∈ P) := by
  induction l with
  | nil => rfl
  | cons a l ih =>
    rw [List.filter_cons, List.all_cons]
    by_cases h : a ∈ P
    · simp only [h, decide_true, Bool.not_true, Bool.true_and]
      exact ih
    · simp [h]
theorem filt_prs (p : Int × Int → Bool) (p' : D → Bool) (h : ∀ r, p' (pairD r) = p r) : ∀ l : List (Int × Int), (l.map pairD).filter p' = (l.filter p).map pairD
  | [] => rfl
  | r :: l => by
    rw [List.map_cons, List.filter_cons, List.filter_cons, h, filt_prs p p' h l]
    split <;> rfl
/-- [1 for a, b in pairs if ..] -/
theorem lc_ones {gd : Sto → Prop} {f : MG} {tt : MT} {te : MX} {envW : MEnv} {S : Sto} {Pp : List D → Sto → Prop} (gS : gd S) (p : Int × Int → Bool) (l : List (Int × Int)) (hl : l.length ≤ line)
    (h : ∀ r ∈ l, ∃ env2, f (pairD r) envW = some env2 ∧ (∀ (Q' : Bool → Sto → Prop), Q' (p r) S → tt env2 S Q' (fun _ => False)) ∧ (p r = true → ∀ (Q' : W → Sto → Prop), Q' (.d (.int 1)) S → te env2 S Q' (fun _ => False)))
    (q : Pp (((l.filter p).map fun _ => (1 : Int)).map D.int) S) : lcM gd f tt te envW (l.map pairD) [] S (fun ws S2 => ∃ xs, datas ws = some xs ∧ Pp xs S2) := by
  let pp : D → Bool := fun d => match d with
    | .tup [.int a, .int b] => p (a, b)
    | _ => false
  refine lc_selp gS pp (fun _ => .int 1) (l.map pairD) (by rw [List.length_map]; exact hl) (fun x hx => ?_) ?_
  · obtain ⟨r, hr, rfl⟩ := List.mem_map.mp hx
    exact h r hr
  · rw [filt_prs p pp (fun r => rfl), List.map_map]
    rw [List.map_map] at q
    exact q
def pyT (r : List Int) : PyData := .tuple (r.map PyData.int)
theorem toPys_rows : ∀ l : List (List Int), toPys (l.map tupI) = some (l.map pyT)
  | [] => rfl
  | r :: l => by
    rw [List.map_cons, toPys, toPys_rows l, show toPy (tupI r) = some (pyT r) from toPy_tupI r]
    rfl
theorem toPy_lstT (l : List (List Int)) : toPy (.lst (l.map tupI)) = some (.list (l.map pyT)) := by
  simp only [toPy, toPys_rows, Option.map_some]
theorem layT : ∀ l : List (List Int), PyData.canLayAll0 (l.map pyT) = true
  | [] => rfl
  | r :: l => by
    rw [List.map_cons, PyData.canLayAll0, layT l]
    show (PyData.canLay0 (.tuple (r.map PyData.int)) && true) = true
    simp only [PyData.canLay0, layI, Bool.and_self]
theorem depT : ∀ l : List (List Int), PyData.depthAll (l.map pyT) ≤ 1
  | [] => by show PyData.depthAll [] ≤ 1; simp only [PyData.depthAll]; decide
  | r :: l => by
    have ih := depT l
    have h1 : (pyT r).depth ≤ 1 := by
      show PyData.depth (.tuple (r.map PyData.int)) ≤ 1
      simp only [PyData.depth, depI]
      decide
    rw [List.map_cons, PyData.depthAll]
    omega
theorem shT (l : List (List Int)) : SeqAt.shaped (.list (l.map pyT)) = true := by
  have := depT l
  simp only [SeqAt.shaped, PyData.canLay0, PyData.depth, layT]
  simp
  omega

theorem cEq_lit (a b : String) : cEq (.str (Str.ofString a)) (.str (Str.ofString b)) := by
  have h : ∀ a : String, SeqAt.shaped (.str (Str.ofString a)) = true := fun a => by
    simp only [SeqAt.shaped, PyData.canLay0, PyData.depth, clean_ok (clean_of a)]
    rfl
  exact ⟨_, _, rfl, rfl, h a, h b⟩
theorem set_last {α : Type} (T : List α) (a b : α) : (T ++ [a]).set T.length b = T ++ [b] := by simp
theorem toPy_walk : ∀ R : Option (List Int), ∃ p, toPy (walkD R) = some p ∧ SeqAt.shaped p = true
  | none => ⟨_, rfl, rfl⟩
  | some w => ⟨_, toPy_tupI w, shapedI w⟩
theorem cEq_walk (R R' : Option (List Int)) : cEq (walkD R) (walkD R') := by
  obtain ⟨p, h1, h2⟩ := toPy_walk R
  obtain ⟨q, g1, g2⟩ := toPy_walk R'
  exact ⟨p, q, h1, g1, h2, g2⟩
theorem eq_walk : ∀ R : Option (List Int), eqD (walkD R) (walkD R) = true
  | none => by rw [eqD_of (p := .none) (q := .none) rfl rfl]; simp [PyData.eqv]
  | some w => by
    show eqD (tupI w) (tupI w) = true
    rw [eq_tup2]
    simp
theorem beh_rg {n : Nat} {P : List (Int × Int)} (G : GoodP n P) (v : Int) : behI (srtP P) v = (rg0 n).filter fun w => decide ((v, w) ∈ P) := by
  refine asc_eq (beh_asc G.1 v) ((rg0_asc n).filter _) fun x => ?_
  rw [beh_mem, List.mem_filter, rg0_mem, decide_eq_true_eq]
  exact ⟨fun h => ⟨(G.2 _ h).2, h⟩, fun h => h.2⟩
theorem bs_rg {n : Nat} {bs : List Int} (bn : bs.Nodup) (hb : ∀ x ∈ bs, 0 ≤ x ∧ x < n) : srtI bs = (rg0 n).filter fun x => decide (x ∈ bs) := by
  refine asc_eq (srtI_asc bn) ((rg0_asc n).filter _) fun x => ?_
  rw [srtI_mem, List.mem_filter, rg0_mem, decide_eq_true_eq]
  exact ⟨fun h => ⟨hb x h, h⟩, fun h => h.2⟩
theorem rep_walk {R : Option (List Int)} (h : ∀ w, R = some w → (∀ x ∈ w, smallI x) ∧ w.length ≤ 100000) : cReprN [walkD R] ∧ cEq (.str (shownD (walkD R))) (.str (shownD (walkD R))) := by
  cases R with
  | none => exact ⟨.inr rfl, by show cEq (.str (shownD .non)) (.str (shownD .non)); rw [shown_non]; exact cEq_str (clean_ok (clean_of _))⟩
  | some w => exact ⟨.inl (repr_tupI (h w rfl).1 (h w rfl).2), cEq_shownI w⟩
theorem greedy_rg {beh : Int → List Int} {F : Int → Bool} {n : Nat} (hr : ∀ v w, w ∈ beh v → 0 ≤ w ∧ w < n) : ∀ (k : Nat) (v x : Int), x ∈ greedy beh F k v → 0 ≤ x ∧ x < n
  | 0, _, _, h => nomatch h
  | k + 1, v, x, h => by
    rw [greedy_succ] at h
    cases e : (beh v).filter (leadR beh F k) with
    | nil => rw [e] at h; cases h
    | cons w ws =>
      rw [e] at h
      have hw : w ∈ (beh v).filter (leadR beh F k) := by rw [e]; exact List.mem_cons_self
      rcases List.mem_cons.mp h with rfl | z
      · exact hr v _ (List.mem_filter.mp hw).1
      · exact greedy_rg hr k w x z
end RW
namespace RW
open PySem PySem.Spec PyProof.Rows L2
variable [Tbl]
def top (i : Nat) : Stmt := PySem.Challenge.pw_roundwright_k03_whole_least_labellings_a.main.body.getD i (.Pass ⟨0, 0, 0, 0⟩)
abbrev sMixed : Stmt := top 26
abbrev sTake : Stmt := top 27
abbrev nMixed : List Str := ["draw", "turn", "found", "great", "blend", "grain"]
theorem scMixed : FnScope nMixed ["draw"] (defScope sMixed) := ⟨rfl, rfl, rfl, by decide +kernel, rfl, by decide +kernel, by decide +kernel⟩
abbrev nTake : List Str := ["draw", "amount", "found"]
theorem scTake : FnScope nTake ["draw", "amount"] (defScope sTake) := ⟨rfl, rfl, rfl, by decide +kernel, rfl, by decide +kernel, by decide +kernel⟩
section
variable {P : Program} {w : World} {K : PySem.W.Frag} {mg : Str → Option Value} {base : Heap}
theorem NoSl.str {x : Str} {j : Nat} {p : Pos} : NoSl (.Constant (.str x) j p) := fun _ _ => rfl
theorem ok_mixed {f : Addr} {fd : FuncData} (F : Fun K "_law_mixed" "_law_mixed" sMixed f fd) (hi : mg "int" = none) : FnG P w K mg base (L2.CX P w) 2 f fd ["draw"] spMixed := by
  obtain ⟨oc, od, kV', doc, pm, an, cdv, ct, osl, rfl, lk, hcd⟩ := F.ex
  refine fnG_of lk hcd scMixed (fun vs H Q E ⟨a, l, c, L, N, r, t, e, _⟩ => by rw [e]; rfl) fun A outer s H vs Q E hr hgd h => ?_
  have hu := hu_of hr
  refine ⟨_, pss_cons (ps_dput hu (pv 0) pe_str (pe_op op_add (pe_dget hu (pv 0) pe_str NoSl.str) pe_int) rfl)
    (pss_cons (ps_par (i := 1) (j := 2) rfl scMixed.nd rfl rfl (by decide) rfl rfl (pa_cons (pe_callTy call_int1 (by rfl) hi boot_int (pa_cons (pe_dget hu (pv 0) pe_str NoSl.str) pa_nil)) (pa_cons pe_int pa_nil)) rfl rfl)
    (pss_cons (ps_for PassesOwn.leaving rfl (pi_list (pe_lst (pa_cons pe_int (pa_cons pe_int (pa_cons pe_int pa_nil))))) (pg_name (i := 3) scMixed.nd rfl (Or.inl rfl))
      (pss_cons (ps_set (i := 4) scMixed.nd rfl (Or.inl rfl) (pe_op op_mod (pe_op op_add (pe_op op_mul (pv 1) pe_int) (pe_op op_fdiv (pv 3) pe_int)) (pv 3)))
      (pss_cons (ps_for PassesOwn.leaving rfl (pi_list (pe_dget hu (pv 0) pe_str NoSl.str)) (pg_name (i := 5) scMixed.nd rfl (Or.inl rfl))
        (pss_one (ps_set (i := 4) scMixed.nd rfl (Or.inl rfl) (pe_op op_mod (pe_op op_add (pe_op op_mul (pv 4) pe_int) (pe_callTy call_int1 (by rfl) hi boot_int (pa_cons (pv 5) pa_nil))) (pv 3)))))
      (pss_one (ps_set (i := 2) scMixed.nd rfl (Or.inl rfl) (pe_op op_add (pe_op op_mul (pv 2) pe_int) (pe_op op_mod (pe_op op_pow (pv 4) pe_int) (pv 3))))))))
    (pss_one (ps_ret (pv 2))))), ?_⟩
  obtain ⟨a, l, c, L, N, r, t, rfl, D0, k⟩ := h
  obtain ⟨P1, D1⟩ := D0.putT (t' := t + 1) (by have := D0.t0; omega)
  refine ⟨.ref a, rfl, a, .int t, rfl, D0.get dr_turn, t, 1, rfl, rfl, .ref a, rfl, a, _, rfl, P1, ?_⟩
  refine ⟨.ref a, rfl, a, .int (t + 1), rfl, D1.get dr_turn, .inl ⟨t + 1, rfl, ?_⟩⟩
  refine ⟨_, _, rfl, ?_⟩
  refine ⟨by show 3 ≤ sizeLine; rw [sizeLine_eq]; decide, fun p hp => ?_⟩
  have nP : Dr (upd (upd H a (.dK (drK l r c (t + 1)))) p (.lst [V.int 2147483629, V.int 2147483587, V.int 2147483579])) a l c L N r (t + 1) := ⟨D1.al, D1.ac, D1.lc, (upd_ne (ne_of_none D1.d hp)).trans D1.d, (upd_ne (ne_of_none D1.hl hp)).trans D1.hl, (upd_ne (ne_of_none D1.hc hp)).trans D1.hc, D1.r0, D1.t0, D1.L0, D1.N0, D1.Ll, D1.Nl⟩
  refine ⟨p, rfl, ⟨_, .inl (.inl upd_same)⟩, for_list (K := K) (a := p) (xs := [V.int 2147483629, V.int 2147483587, V.int 2147483579]) (fun i σ H' => ∃ (fnd : Int) (x3 x4 x5 : Option V), 0 ≤ fnd ∧ σ = [some (.ref a), some (.int (t + 1)), some (.int fnd), x3, x4, x5] ∧
    Dr H' a l c L N r (t + 1) ∧ ButDr a l c H H' ∧ H' p = some (.lst [V.int 2147483629, V.int 2147483587, V.int 2147483579])) ⟨0, none, none, none, by decide, rfl, nP, (ButDr.upd (.inl rfl)).trans (ButDr.new hp), upd_same⟩ (fun i σ H' _ ⟨_, _, _, _, _, _, _, _, q⟩ => .inl (.inl q)) ?_ ?_⟩
  · rintro i x σ H1 hx ⟨fnd, x3, x4, x5, f0, rfl, D2, B2, q2⟩
    obtain ⟨gr, rfl, g0, g1⟩ : ∃ gr : Int, x = .int gr ∧ 0 < gr ∧ gr < 2147483648 := by
      match i, hx with
      | 0, hx => cases hx; exact ⟨_, rfl, by decide, by decide⟩
      | 1, hx => cases hx; exact ⟨_, rfl, by decide, by decide⟩
      | 2, hx => cases hx; exact ⟨_, rfl, by decide, by decide⟩
      | i + 3, hx => cases hx
    refine ⟨.int (t + 1), rfl, t + 1, 69621, rfl, rfl, .inr ⟨by decide, by decide⟩, .int gr, rfl, gr, 7, rfl, rfl, ⟨by decide, by decide⟩, _, _, rfl, rfl, .int gr, rfl, _, gr, rfl, rfl, g0, ?_⟩
    have m0 : ∀ z : Int, 0 ≤ z % gr ∧ z % gr < gr := fun z => ⟨Int.emod_nonneg _ (by omega), Int.emod_lt_of_pos _ g0⟩
    refine ⟨.ref a, rfl, a, .ref c, rfl, D2.get dr_cells, c, rfl, ⟨_, .inl (.inl D2.hc)⟩, for_list (K := K) (a := c) (xs := N.map V.int) (fun j σ H' => ∃ (bl : Int) (y5 : Option V), 0 ≤ bl ∧ bl < gr ∧ σ = [some (.ref a), some (.int (t + 1)), some (.int fnd), some (.int gr), some (.int bl), y5] ∧ H' = H1)
      ⟨_, x5, (m0 _).1, (m0 _).2, rfl, rfl⟩ (fun j σ H' _ ⟨_, _, _, _, _, e⟩ => by rw [e]; exact .inl (.inl D2.hc)) ?_ ?_⟩
    · rintro j y σ H' hy ⟨bl, y5, b0, b1, rfl, rfl⟩
      obtain ⟨n, rfl⟩ : ∃ n : Int, y = .int n := by
        rw [List.getElem?_map] at hy
        cases h : N[j]? with
        | none => rw [h] at hy; cases hy
        | some n => rw [h] at hy; cases hy; exact ⟨n, rfl⟩
      exact ⟨.int bl, rfl, bl, 48271, rfl, rfl, .inr ⟨by decide, by decide⟩, .int n, rfl, .inl ⟨n, rfl, _, _, rfl, rfl, .int gr, rfl, _, gr, rfl, rfl, g0, _, _, (m0 _).1, (m0 _).2, rfl, rfl⟩⟩
    · rintro σ H' ⟨bl, y5, b0, b1, rfl, rfl⟩
      refine ⟨.int fnd, rfl, fnd, 2147483647, rfl, rfl, .inr ⟨by decide, by decide⟩, .int bl, rfl, bl, 5, rfl, rfl, ⟨by decide, by decide, by omega⟩, .int gr, rfl, _, gr, rfl, rfl, g0, _, _, rfl, rfl, ?_⟩
      exact ⟨_, _, _, _, Int.add_nonneg (Int.mul_nonneg f0 (by decide)) (m0 _).1, rfl, D2, B2, q2⟩
  · rintro σ H' ⟨fnd, x3, x4, x5, f0, rfl, D2, B2, q2⟩
    exact ⟨.int fnd, rfl, k _ _ f0 D2 B2⟩
theorem dp_ints {H : Hp} : ∀ L : List Int, DpAll K H (L.map V.int) (L.map PyData.int)
  | [] => .nil
  | x :: L => .cons (.int x) (dp_ints L)
/-- _law_take(draw, amount) -/
theorem ok_take {f fM : Addr} {fd fdM : FuncData} (F : Fun K "_law_take" "_law_take" sTake f fd) (hi : mg "int" = none) (FM : FnG P w K mg base (L2.CX P w) 2 fM fdM ["draw"] spMixed) (gM : mg "_law_mixed" = some (.ref fM)) (kM : PySem.W.keepIn K (.ref fM) = true) (bM : Binds K fdM ["draw"] []) :
    FnG P w K mg base (L2.CX P w) 3 f fd ["draw", "amount"] (spF ⟨K, mg, Tbl.tabs⟩ 2 takeM) := by
  obtain ⟨oc, od, kV', doc, pm, an, cdv, ct, osl, rfl, lk, hcd⟩ := F.ex
  refine fnG_of lk hcd scTake (fun vs H Q E h => h.1) fun A outer s H vs Q E hr hgd h => ?_
  have hu := hu_of hr
  refine ⟨_, pss_cons (ps_if (pt_cmpR op_eq (pe_dget hu (pv 0) pe_str NoSl.str) pe_int (nomark _))
      (pss_one (ps_dput hu (pv 0) pe_str (pe_ifExp (pt_cmpR (op_neD hr.units) (pe_dget hu (pv 0) pe_str NoSl.str) (pe_lst pa_nil) (nomark _)) (pe_bm PySem.F.plainAttrs_list PySem.F.slot_list_pop PySem.F.type_list_pop mt_popAt (pe_dget hu (pv 0) pe_str NoSl.str) (pa_cons pe_int pa_nil))
        (pe_callG (E := fun _ _ _ _ => False) FM hgd hr (by rfl) gM kM bM (fun σ => fun _ _ _ _ _ _ z => by obtain ⟨_, _, _, _, _, _, _, _, _, _, _, _, z⟩ := z; exact z.elim) (pa_cons (pv 0) pa_nil))) (by rfl))) pss_nil)
    (pss_cons (ps_set (i := 2) scTake.nd rfl (Or.inl rfl) (pe_op op_mod (pe_callTy call_int1 (by rfl) hi boot_int (pa_cons (pe_dget hu (pv 0) pe_str NoSl.str) pa_nil)) (pv 1)))
    (pss_cons (ps_dput hu (pv 0) pe_str (pe_op op_fdiv (pe_callTy call_int1 (by rfl) hi boot_int (pa_cons (pe_dget hu (pv 0) pe_str NoSl.str) pa_nil)) (pv 1)) rfl)
    (pss_one (ps_ret (pv 2))))), ?_⟩
  obtain ⟨hl, g, B0, ds, R, rs, n, eds, n0, n1, kk⟩ := h
  subst eds
  cases rs with
  | cons h1 rs =>
    cases rs with
    | cons h2 rs =>
      cases rs
      cases h2
      obtain ⟨a, l, c, L, N, r, t, eg, ev, D0⟩ := dr_of R h1
      subst ev
      have fin : ∀ (H1 : Hp) (L1 : List Int) (r1 t1 : Int), Dr H1 a l c L1 N r1 t1 → ButDr a l c H H1 → (tSeq (tAsg (tOp (rI (fun _ j => 0 < j) fun i j => V.int (i % j)) (tCB (fun xs H Q => (∃ i, xs = [V.int i] ∧ Q (.int i) H) ∨ ∃ k, xs = [V.bl k] ∧ Q (.int (if k = true then 1 else 0)) H) (tCons (tDGet (tVar 0) (tC (.str "rest"))) tNil)) (tVar 1)) (gName 2))
          (tSeq (sDPut (tVar 0) (tC (.str "rest")) (tOp (rI CDiv fun i j => V.int (i / j)) (tCB (fun xs H Q => (∃ i, xs = [V.int i] ∧ Q (.int i) H) ∨ ∃ k, xs = [V.bl k] ∧ Q (.int (if k = true then 1 else 0)) H) (tCons (tDGet (tVar 0) (tC (.str "rest"))) tNil)) (tVar 1))) (tRet (tVar 2))))
          { nx := fun _ H' => Q .non H', rt := Q } (L2.start nTake [.ref a, .int n]) H1 := fun H1 L1 r1 t1 D1 B1 => by
        obtain ⟨P2, D2⟩ := D1.putR (r' := r1 / n) (Int.ediv_nonneg D1.r0 (by omega))
        refine ⟨.ref a, rfl, a, .int r1, rfl, D1.get dr_rest, .inl ⟨r1, rfl, .int n, rfl, r1, n, rfl, rfl, n0, ?_⟩⟩
        refine ⟨.ref a, rfl, a, .int r1, rfl, D1.get dr_rest, .inl ⟨r1, rfl, .int n, rfl, r1, n, rfl, rfl, ⟨n0, n1⟩, .ref a, rfl, a, _, rfl, P2, .int (r1 % n), rfl, ?_⟩⟩
        obtain ⟨R2, e2⟩ := R.draw eg D2.ok (B1.trans (ButDr.upd (.inl rfl)))
        exact kk (r1 % n) (Int.emod_nonneg _ (by omega)) (Int.emod_lt_of_pos _ n0) g _ (.int (r1 % n)) R2 e2 (.int _)
      refine ⟨.ref a, rfl, a, .int r, rfl, D0.get dr_rest, rfl, _, rfl, ?_⟩
      by_cases hr0 : r = 0
      · subst hr0
        rw [if_pos (by decide)]
        refine ⟨.ref a, rfl, a, .ref l, rfl, D0.get dr_large, by show 0 ≤ sizeLine; exact Nat.zero_le _, fun p hp => ?_⟩
        have D1 : Dr (upd H p (.lst [])) a l c L N 0 t := ⟨D0.al, D0.ac, D0.lc, (upd_ne (ne_of_none D0.d hp)).trans D0.d, (upd_ne (ne_of_none D0.hl hp)).trans D0.hl, (upd_ne (ne_of_none D0.hc hp)).trans D0.hc, D0.r0, D0.t0, D0.L0, D0.N0, D0.Ll, D0.Nl⟩
        have B1 : ButDr a l c H (upd H p (.lst [])) := ButDr.new hp
        refine ⟨.list (L.map PyData.int), .list [], .lst (.inl (.inl D1.hl)) (dp_ints L), .lst (.inl (.inl upd_same)) .nil, PySem.W.shaped_ints L, rfl, _, rfl, ?_⟩
        cases L with
        | nil =>
          rw [if_neg (by decide)]
          exact ⟨.ref a, rfl, a, l, c, [], N, 0, t, rfl, D1, fun H' k k0 D2 B2 => ⟨.ref a, rfl, ⟨a, _, rfl, (D2.putR k0).1, fin _ _ k _ (D2.putR k0).2 ((B1.trans B2).trans (ButDr.upd (.inl rfl)))⟩⟩⟩
        | cons x L =>
          rw [if_pos (by rfl)]
          refine ⟨.ref a, rfl, a, .ref l, rfl, D1.get dr_large, .inl ⟨rfl, _, .inl (.inl D1.hl)⟩, l, _, 0, 0, .int x, rfl, rfl, D1.hl, by decide, by decide, ?_, rfl, ?_⟩
          · exact seqIndex_of (by decide) (by simp)
          · have x0 := D0.L0 x List.mem_cons_self
            exact ⟨.ref a, rfl, a, _, rfl, (D1.pop.putR x0).1, fin _ _ x _ (D1.pop.putR x0).2 ((B1.trans (ButDr.upd (.inr (.inl rfl)))).trans (ButDr.upd (.inl rfl)))⟩
      · show if decide (V.int r = V.int 0) = true then _ else _
        rw [if_neg (by simp [hr0])]
        exact fin H L r t D0 ButDr.refl
end
end RW
namespace RW
open PySem PySem.Spec PyProof.Rows L2
variable [Tbl]
abbrev sBegun : Stmt := top 25
abbrev nBegun : List Str := ["script", "large", "grain"]
theorem scBegun : FnScope nBegun ["script"] (defScope sBegun) := ⟨rfl, rfl, rfl, by decide +kernel, rfl, by decide +kernel, by decide +kernel⟩
/-- _law_begun(script): a draw, all its parts new -/
def spBegun (K : PySem.W.Frag) : Sp := fun vs H Q _ => ∃ (a : Addr) (ns : List Int), vs = [.ref a] ∧ SqL K H a (ns.map V.int) ∧ ns.length ≤ 63 ∧ ∀ H' d l c L N, Dr H' d l c L N 0 0 → H d = none ∧ H l = none ∧ H c = none → (∀ b o, H b = some o → H' b = some o) → Q (.ref d) H'
theorem sq_keep {K : PySem.W.Frag} {H H' : Hp} {a : Addr} {xs : List V} (h : SqL K H a xs) (k : ∀ b o, H b = some o → H' b = some o) : SqL K H' a xs := by
  rcases h with (h | ⟨o, h⟩) | h
  · exact .inl (.inl (k _ _ h))
  · exact .inl (.inr ⟨o, k _ _ h⟩)
  · exact .inr h
theorem merge_dr {l c : Addr} {r t : Int} : mergeK [] (drK l r c t) = drK l r c t := by
  unfold mergeK
  simp only [List.foldl_cons, List.foldl_nil, putK, List.any_nil, List.any_cons, List.map_cons, List.nil_append, List.cons_append, Bool.false_eq_true, if_false, kne1, kne2, kne3, kne4, kne5, kne6, decide_false, Bool.or_false]
theorem new_keep {H : Hp} {p : Addr} {o : HO} (h : H p = none) : ∀ b u, H b = some u → upd H p o b = some u := fun b u e => (upd_ne (ne_of_none e h)).trans e
theorem abs0 (n : Int) : 0 ≤ (if n < 0 then -n else n) := by split <;> omega
theorem ints_at {ns : List Int} {i : Nat} {x : V} (h : (ns.map V.int)[i]? = some x) : ∃ n, x = .int n := by
  rw [List.getElem?_map] at h
  cases q : ns[i]? with
  | none => rw [q] at h; cases h
  | some n => rw [q] at h; cases h; exact ⟨n, rfl⟩
section
variable {P : Program} {w : World} {K : PySem.W.Frag} {mg : Str → Option Value} {base : Heap}
theorem ok_begun {f : Addr} {fd : FuncData} (F : Fun K "_law_begun" "_law_begun" sBegun f fd) (ha : mg "abs" = none) : FnG P w K mg base (L2.CX P w) 2 f fd ["script"] (spBegun K) := by
  obtain ⟨oc, od, kV', doc, pm, an, cdv, ct, osl, rfl, lk, hcd⟩ := F.ex
  refine fnG_of lk hcd scBegun (fun vs H Q E ⟨a, ns, e, _⟩ => by rw [e]; rfl) fun A outer s H vs Q E hr hgd h => ?_
  have hu := hu_of hr
  refine ⟨_, pss_cons (ps_setLc (i := 1) rfl scBegun.nd rfl rfl rfl (pi_list (pv 0)) (blkOk_by (own := [("grain", 2)]) (by rfl)) (fun s H C cl fp => pg_name (i := 2) scBegun.nd rfl (Or.inl rfl) (.inr rfl))
      (fun s H C cl fp => pts_one (pt_cmpR op_ge (pe_callB call_abs (by rfl) ha boot_abs (pa_cons (pv 2) pa_nil)) (pe_op op_pow pe_int pe_int) (nomark _)))
      (fun s H C cl fp => pe_op op_sub (pe_callB call_abs (by rfl) ha boot_abs (pa_cons (pv 2) pa_nil)) (pe_op op_pow pe_int pe_int)))
    (pss_one (ps_ret (pe_disp (pps_cons pe_str (pv 1) (pps_cons pe_str pe_int (pps_cons pe_str (pe_lc rfl scBegun.nd (pi_list (pv 0)) (blkOk_by (own := [("grain", 2)]) (by rfl)) (fun s H C cl fp => pg_name (i := 2) scBegun.nd rfl (Or.inl rfl) (.inr rfl)) (fun s H C cl fp => pts_nil)
      (fun s H C cl fp => pe_callB call_abs (by rfl) ha boot_abs (pa_cons (pv 2) pa_nil))) (pps_cons pe_str pe_int pps_nil)))) rfl rfl (by simp) (by decide)))), ?_⟩
  obtain ⟨a, ns, rfl, hS, hl, k⟩ := h
  have cp : CPow 10 18 := ⟨by decide, by decide, by decide⟩
  refine ⟨.ref a, rfl, a, rfl, ⟨_, hS⟩, fun d1 hd1 => lc_list (K := K) (a := a) (xs := ns.map V.int) (fun i H' => ∃ L : List Int, H' = upd H d1 (.lst (L.map V.int)) ∧ L.length ≤ i ∧ ∀ x ∈ L, 0 ≤ x) ⟨[], rfl, Nat.le_refl _, fun _ z => nomatch z⟩
    (fun i H' _ ⟨L, e, _⟩ => by rw [e]; exact sq_keep hS (new_keep hd1)) ?_ ?_⟩
  · rintro i x H' hx ⟨L, rfl, hL, L0⟩
    obtain ⟨n, rfl⟩ := ints_at hx
    have hi : i < 63 := by
      have := (List.getElem?_eq_some_iff.mp hx).1
      rw [List.length_map] at this
      omega
    refine ⟨rfl, .int n, rfl, n, rfl, 10, 18, rfl, rfl, cp, _, _, rfl, rfl, _, rfl, ?_⟩
    by_cases hb : decide ((10 : Int) ^ (18 : Int).toNat ≤ if n < 0 then -n else n) = true
    · show if decide ((10 : Int) ^ (18 : Int).toNat ≤ if n < 0 then -n else n) = true then _ else _
      rw [if_pos hb]
      refine ⟨.int n, rfl, n, rfl, 10, 18, rfl, rfl, cp, _, _, rfl, rfl, L.map V.int, upd_same, by rw [List.length_map, sizeLine_eq]; omega, L ++ [(if n < 0 then -n else n) - (10 : Int) ^ (18 : Int).toNat], ?_, by rw [List.length_append]; show L.length + 1 ≤ i + 1; omega, fun x hx => ?_⟩
      · rw [upd_upd, List.map_append]
        rfl
      · rcases List.mem_append.mp hx with z | z
        · exact L0 x z
        · have := of_decide_eq_true hb
          rw [List.mem_singleton.mp z]
          exact Int.sub_nonneg_of_le this
    · show if decide ((10 : Int) ^ (18 : Int).toNat ≤ if n < 0 then -n else n) = true then _ else _
      rw [if_neg hb]
      exact ⟨L, rfl, Nat.le_succ_of_le hL, L0⟩
  · rintro H' ⟨L, rfl, hL, L0⟩
    rw [List.length_map] at hL
    refine fun p hp => ⟨.ref d1, rfl, .ref a, rfl, a, rfl, ⟨_, sq_keep (sq_keep hS (new_keep hd1)) (new_keep hp)⟩, fun d2 hd2 => lc_list (K := K) (a := a) (xs := ns.map V.int) (fun i H' => ∃ N : List Int, H' = upd (upd (upd H d1 (.lst (L.map V.int))) p (.dK [])) d2 (.lst (N.map V.int)) ∧ N.length ≤ i ∧ ∀ x ∈ N, 0 ≤ x) ⟨[], rfl, Nat.le_refl _, fun _ z => nomatch z⟩
      (fun i H' _ ⟨N, e, _⟩ => by rw [e]; exact sq_keep (sq_keep (sq_keep hS (new_keep hd1)) (new_keep hp)) (new_keep hd2)) ?_ ?_⟩
    · rintro i x H' hx ⟨N, rfl, hN, N0⟩
      obtain ⟨n, rfl⟩ := ints_at hx
      have hi : i < 63 := by
        have := (List.getElem?_eq_some_iff.mp hx).1
        rw [List.length_map] at this
        omega
      refine ⟨rfl, .int n, rfl, n, rfl, N.map V.int, upd_same, by rw [List.length_map, sizeLine_eq]; omega, N ++ [if n < 0 then -n else n], ?_, by rw [List.length_append]; show N.length + 1 ≤ i + 1; omega, fun x hx => ?_⟩
      · rw [upd_upd, List.map_append]
        rfl
      · rcases List.mem_append.mp hx with z | z
        · exact N0 x z
        · rw [List.mem_singleton.mp z]
          exact abs0 n
    · rintro H' ⟨N, rfl, hN, N0⟩
      rw [List.length_map] at hN
      have ap : H p = none := by
        cases e : H p with
        | none => rfl
        | some o => rw [new_keep hd1 _ _ e] at hp; cases hp
      have a2 : H d2 = none := by
        cases e : H d2 with
        | none => rfl
        | some o => rw [new_keep hp _ _ (new_keep hd1 _ _ e)] at hd2; cases hd2
      have n1 : p ≠ d1 := fun z => by rw [z, upd_same] at hp; cases hp
      have n2 : p ≠ d2 := fun z => by rw [← z, upd_same] at hd2; cases hd2
      have n3 : d1 ≠ d2 := fun z => by rw [← z, upd_ne (Ne.symm n1), upd_same] at hd2; cases hd2
      refine ⟨by rw [upd_ne n2, upd_same], drK d1 0 d2 0, rfl, (by show (4 : Nat) ≤ 15; decide), ?_⟩
      rw [merge_dr]
      refine k _ p d1 d2 L N ⟨n1, n2, n3, upd_same, ?_, ?_, by decide, by decide, L0, N0, by omega, by omega⟩ ⟨ap, hd1, a2⟩ fun b o e => ?_
      · rw [upd_ne (Ne.symm n1), upd_ne n3, upd_ne (Ne.symm n1), upd_same]
      · rw [upd_ne (Ne.symm n2), upd_same]
      · rw [upd_ne (ne_of_none e ap)]
        exact new_keep hd2 _ _ (new_keep hp _ _ (new_keep hd1 _ _ e))
end
end RW
namespace RW
open PySem PySem.Spec PyProof.Rows L2
variable [Tbl]
abbrev s__law_begun : Stmt := sBegun
abbrev s__law_mixed : Stmt := sMixed
abbrev s__law_take : Stmt := sTake
abbrev m__law_take : MF := takeM
abbrev s__law_caught : Stmt := top 30
def errsAll : List Str := ["BadNumber", "BadProblem"]
def errs_part : List Str := ["BadNumber", "BadProblem"]
def cls_ends : List Str := ["PathProblem"]
def cls_labels : List Str := ["RingProblem", "PathProblem"]
def cls_pairs : List Str := ["RingProblem", "PathProblem"]
def cls_starts : List Str := ["PathProblem"]
def ownAll : List Str := ["RingProblem", "PathProblem"]
abbrev s_is_number : Stmt := top 5
abbrev n_is_number : List Str := ["thing"]
theorem sc_is_number : FnScope n_is_number ["thing"] (defScope s_is_number) := ⟨rfl, rfl, rfl, by decide +kernel, rfl, by decide +kernel, by decide +kernel⟩
abbrev s_is_between : Stmt := top 6
abbrev n_is_between : List Str := ["thing", "low", "high"]
theorem sc_is_between : FnScope n_is_between ["thing", "low", "high"] (defScope s_is_between) := ⟨rfl, rfl, rfl, by decide +kernel, rfl, by decide +kernel, by decide +kernel⟩
abbrev s_is_list : Stmt := top 7
abbrev n_is_list : List Str := ["thing"]
theorem sc_is_list : FnScope n_is_list ["thing"] (defScope s_is_list) := ⟨rfl, rfl, rfl, by decide +kernel, rfl, by decide +kernel, by decide +kernel⟩
abbrev s_is_tuple : Stmt := top 8
abbrev n_is_tuple : List Str := ["thing", "size"]
theorem sc_is_tuple : FnScope n_is_tuple ["thing", "size"] (defScope s_is_tuple) := ⟨rfl, rfl, rfl, by decide +kernel, rfl, by decide +kernel, by decide +kernel⟩
abbrev s_need_between : Stmt := top 9
abbrev n_need_between : List Str := ["number", "low", "high", "part"]
theorem sc_need_between : FnScope n_need_between ["number", "low", "high", "part"] (defScope s_need_between) := ⟨rfl, rfl, rfl, by decide +kernel, rfl, by decide +kernel, by decide +kernel⟩
abbrev s_is_labels : Stmt := top 13
abbrev n_is_labels : List Str := ["labels", "thing", "item"]
theorem sc_is_labels : FnScope n_is_labels ["labels", "thing"] (defScope s_is_labels) := ⟨rfl, rfl, rfl, by decide +kernel, rfl, by decide +kernel, by decide +kernel⟩
abbrev s_is_pairs : Stmt := top 14
abbrev n_is_pairs : List Str := ["labels", "thing", "item", "part"]
theorem sc_is_pairs : FnScope n_is_pairs ["labels", "thing"] (defScope s_is_pairs) := ⟨rfl, rfl, rfl, by decide +kernel, rfl, by decide +kernel, by decide +kernel⟩
abbrev s_need_pairs : Stmt := top 15
abbrev n_need_pairs : List Str := ["labels", "pairs"]
theorem sc_need_pairs : FnScope n_need_pairs ["labels", "pairs"] (defScope s_need_pairs) := ⟨rfl, rfl, rfl, by decide +kernel, rfl, by decide +kernel, by decide +kernel⟩
abbrev s_need_problem : Stmt := top 18
abbrev n_need_problem : List Str := ["thing"]
theorem sc_need_problem : FnScope n_need_problem ["thing"] (defScope s_need_problem) := ⟨rfl, rfl, rfl, by decide +kernel, rfl, by decide +kernel, by decide +kernel⟩
abbrev s_behind_of : Stmt := top 19
abbrev n_behind_of : List Str := ["problem", "found", "one", "other", "label"]
theorem sc_behind_of : FnScope n_behind_of ["problem"] (defScope s_behind_of) := ⟨rfl, rfl, rfl, by decide +kernel, rfl, by decide +kernel, by decide +kernel⟩
abbrev s_ways_to : Stmt := top 20
abbrev n_ways_to : List Str := ["problem", "goals", "steps", "behind", "found", "step", "last", "label", "other"]
theorem sc_ways_to : FnScope n_ways_to ["problem", "goals", "steps"] (defScope s_ways_to) := ⟨rfl, rfl, rfl, by decide +kernel, rfl, by decide +kernel, by decide +kernel⟩
abbrev s_starts_of : Stmt := top 21
abbrev n_starts_of : List Str := ["problem", "size", "ways", "found", "label", "ahead", "one", "other"]
theorem sc_starts_of : FnScope n_starts_of ["problem", "size"] (defScope s_starts_of) := ⟨rfl, rfl, rfl, by decide +kernel, rfl, by decide +kernel, by decide +kernel⟩
abbrev s_some_labelling : Stmt := top 22
abbrev n_some_labelling : List Str := ["problem", "size", "behind", "first", "ways", "found", "left", "label"]
theorem sc_some_labelling : FnScope n_some_labelling ["problem", "size"] (defScope s_some_labelling) := ⟨rfl, rfl, rfl, by decide +kernel, rfl, by decide +kernel, by decide +kernel⟩
abbrev s_how_many : Stmt := top 23
abbrev n_how_many : List Str := ["problem", "size", "first", "ways"]
theorem sc_how_many : FnScope n_how_many ["problem", "size"] (defScope s_how_many) := ⟨rfl, rfl, rfl, by decide +kernel, rfl, by decide +kernel, by decide +kernel⟩
abbrev s__law_pick : Stmt := top 28
abbrev n__law_pick : List Str := ["draw", "some"]
theorem sc__law_pick : FnScope n__law_pick ["draw", "some"] (defScope s__law_pick) := ⟨rfl, rfl, rfl, by decide +kernel, rfl, by decide +kernel, by decide +kernel⟩
abbrev s__law_shuffled : Stmt := top 29
abbrev n__law_shuffled : List Str := ["draw", "some", "left", "found"]
theorem sc__law_shuffled : FnScope n__law_shuffled ["draw", "some"] (defScope s__law_shuffled) := ⟨rfl, rfl, rfl, by decide +kernel, rfl, by decide +kernel, by decide +kernel⟩
abbrev s__law_pairs : Stmt := top 31
abbrev n__law_pairs : List Str := ["draw", "labels_here", "way", "found", "one", "other"]
theorem sc__law_pairs : FnScope n__law_pairs ["draw", "labels_here"] (defScope s__law_pairs) := ⟨rfl, rfl, rfl, by decide +kernel, rfl, by decide +kernel, by decide +kernel⟩
abbrev s__law_some_labels : Stmt := top 32
abbrev n__law_some_labels : List Str := ["draw", "labels_here"]
theorem sc__law_some_labels : FnScope n__law_some_labels ["draw", "labels_here"] (defScope s__law_some_labels) := ⟨rfl, rfl, rfl, by decide +kernel, rfl, by decide +kernel, by decide +kernel⟩
abbrev s__law_sketch : Stmt := top 33
abbrev n__law_sketch : List Str := ["draw", "most", "labels_here", "found"]
theorem sc__law_sketch : FnScope n__law_sketch ["draw", "most"] (defScope s__law_sketch) := ⟨rfl, rfl, rfl, by decide +kernel, rfl, by decide +kernel, by decide +kernel⟩
abbrev s__law_made : Stmt := top 34
abbrev n__law_made : List Str := ["sketch"]
theorem sc__law_made : FnScope n__law_made ["sketch"] (defScope s__law_made) := ⟨rfl, rfl, rfl, by decide +kernel, rfl, by decide +kernel, by decide +kernel⟩
abbrev s__law_break : Stmt := top 35
abbrev n__law_break : List Str := ["sketch", "labelling_here", "size", "is_path", "place"]
theorem sc__law_break : FnScope n__law_break ["sketch", "labelling_here"] (defScope s__law_break) := ⟨rfl, rfl, rfl, by decide +kernel, rfl, by decide +kernel, by decide +kernel⟩
abbrev s__law_rows : Stmt := top 36
abbrev n__law_rows : List Str := ["labels_here", "size", "found", "lap", "longer", "row", "label"]
theorem sc__law_rows : FnScope n__law_rows ["labels_here", "size"] (defScope s__law_rows) := ⟨rfl, rfl, rfl, by decide +kernel, rfl, by decide +kernel, by decide +kernel⟩
abbrev s__law_ways : Stmt := top 37
abbrev n__law_ways : List Str := ["sketch", "size", "told", "lap", "longer", "first", "last", "one", "other", "label"]
theorem sc__law_ways : FnScope n__law_ways ["sketch", "size"] (defScope s__law_ways) := ⟨rfl, rfl, rfl, by decide +kernel, rfl, by decide +kernel, by decide +kernel⟩
abbrev s__law_sum : Stmt := top 38
abbrev n__law_sum : List Str := ["sketch", "size", "told", "item"]
theorem sc__law_sum : FnScope n__law_sum ["sketch", "size"] (defScope s__law_sum) := ⟨rfl, rfl, rfl, by decide +kernel, rfl, by decide +kernel, by decide +kernel⟩
abbrev s_RingProblem : Stmt := inClass (top 16) 0
abbrev n_RingProblem : List Str := ["labels", "pairs"]
theorem sc_RingProblem : FnScope ("self" :: n_RingProblem) ("self" :: ["labels", "pairs"]) (defScope s_RingProblem) := ⟨rfl, rfl, rfl, by decide +kernel, rfl, by decide +kernel, by decide +kernel⟩
abbrev s_PathProblem : Stmt := inClass (top 17) 0
abbrev n_PathProblem : List Str := ["labels", "pairs", "starts", "ends"]
theorem sc_PathProblem : FnScope ("self" :: n_PathProblem) ("self" :: ["labels", "pairs", "starts", "ends"]) (defScope s_PathProblem) := ⟨rfl, rfl, rfl, by decide +kernel, rfl, by decide +kernel, by decide +kernel⟩
abbrev s_law : Stmt := top 39
abbrev n_law : List Str := ["script", "draw", "turn", "sketch", "problem", "size", "right", "due", "great", "number", "told", "bad", "work", "caught", "none", "row"]
theorem sc_law : FnScope n_law ["script"] (defScope s_law) := ⟨rfl, rfl, rfl, by decide +kernel, rfl, by decide +kernel, by decide +kernel⟩
structure Txt (P : Program) (K : PySem.W.Frag) (mg : Str → Option Value) : Prop where
  n_abs : mg "abs" = none
  n_all : mg "all" = none
  n_bool : mg "bool" = none
  n_dict : mg "dict" = none
  n_int : mg "int" = none
  n_isinstance : mg "isinstance" = none
  n_len : mg "len" = none
  n_list : mg "list" = none
  n_min : mg "min" = none
  n_range : mg "range" = none
  n_repr : mg "repr" = none
  n_set : mg "set" = none
  n_sorted : mg "sorted" = none
  n_sum : mg "sum" = none
  n_tuple : mg "tuple" = none
  c_MOST_LABELS : ∃ t, mg "MOST_LABELS" = some (.int 12 t)
  c_MOST_HOUSES : ∃ t, mg "MOST_HOUSES" = some (.int 400 t)
  f__law_begun : ∃ f fd, Fun K "_law_begun" "_law_begun" s__law_begun f fd ∧ mg "_law_begun" = some (.ref f) ∧ Binds K fd ["script"] []
  f__law_mixed : ∃ f fd, Fun K "_law_mixed" "_law_mixed" s__law_mixed f fd ∧ mg "_law_mixed" = some (.ref f) ∧ Binds K fd ["draw"] []
  f__law_take : ∃ f fd, Fun K "_law_take" "_law_take" s__law_take f fd ∧ mg "_law_take" = some (.ref f) ∧ Binds K fd ["draw", "amount"] []
  f__law_caught : ∃ f fd, Fun K "_law_caught" "_law_caught" s__law_caught f fd ∧ mg "_law_caught" = some (.ref f) ∧ Binds K fd ["work"] []
  f_is_number : ∃ f fd, Fun K "is_number" "is_number" s_is_number f fd ∧ mg "is_number" = some (.ref f) ∧ Binds K fd ["thing"] []
  f_is_between : ∃ f fd, Fun K "is_between" "is_between" s_is_between f fd ∧ mg "is_between" = some (.ref f) ∧ Binds K fd ["thing", "low", "high"] []
  f_is_list : ∃ f fd, Fun K "is_list" "is_list" s_is_list f fd ∧ mg "is_list" = some (.ref f) ∧ Binds K fd ["thing"] []
  f_is_tuple : ∃ f fd, Fun K "is_tuple" "is_tuple" s_is_tuple f fd ∧ mg "is_tuple" = some (.ref f) ∧ Binds K fd ["thing", "size"] []
  f_need_between : ∃ f fd, Fun K "need_between" "need_between" s_need_between f fd ∧ mg "need_between" = some (.ref f) ∧ Binds K fd ["number", "low", "high", "part"] []
  f_is_labels : ∃ f fd, Fun K "is_labels" "is_labels" s_is_labels f fd ∧ mg "is_labels" = some (.ref f) ∧ Binds K fd ["labels", "thing"] []
  f_is_pairs : ∃ f fd, Fun K "is_pairs" "is_pairs" s_is_pairs f fd ∧ mg "is_pairs" = some (.ref f) ∧ Binds K fd ["labels", "thing"] []
  f_need_pairs : ∃ f fd, Fun K "need_pairs" "need_pairs" s_need_pairs f fd ∧ mg "need_pairs" = some (.ref f) ∧ Binds K fd ["labels", "pairs"] []
  f_need_problem : ∃ f fd, Fun K "need_problem" "need_problem" s_need_problem f fd ∧ mg "need_problem" = some (.ref f) ∧ Binds K fd ["thing"] []
  f_behind_of : ∃ f fd, Fun K "behind_of" "behind_of" s_behind_of f fd ∧ mg "behind_of" = some (.ref f) ∧ Binds K fd ["problem"] []
  f_ways_to : ∃ f fd, Fun K "ways_to" "ways_to" s_ways_to f fd ∧ mg "ways_to" = some (.ref f) ∧ Binds K fd ["problem", "goals", "steps"] []
  f_starts_of : ∃ f fd, Fun K "starts_of" "starts_of" s_starts_of f fd ∧ mg "starts_of" = some (.ref f) ∧ Binds K fd ["problem", "size"] []
  f_some_labelling : ∃ f fd, Fun K "some_labelling" "some_labelling" s_some_labelling f fd ∧ mg "some_labelling" = some (.ref f) ∧ Binds K fd ["problem", "size"] []
  f_how_many : ∃ f fd, Fun K "how_many" "how_many" s_how_many f fd ∧ mg "how_many" = some (.ref f) ∧ Binds K fd ["problem", "size"] []
  f__law_pick : ∃ f fd, Fun K "_law_pick" "_law_pick" s__law_pick f fd ∧ mg "_law_pick" = some (.ref f) ∧ Binds K fd ["draw", "some"] []
  f__law_shuffled : ∃ f fd, Fun K "_law_shuffled" "_law_shuffled" s__law_shuffled f fd ∧ mg "_law_shuffled" = some (.ref f) ∧ Binds K fd ["draw", "some"] []
  f__law_pairs : ∃ f fd, Fun K "_law_pairs" "_law_pairs" s__law_pairs f fd ∧ mg "_law_pairs" = some (.ref f) ∧ Binds K fd ["draw", "labels_here"] []
  f__law_some_labels : ∃ f fd, Fun K "_law_some_labels" "_law_some_labels" s__law_some_labels f fd ∧ mg "_law_some_labels" = some (.ref f) ∧ Binds K fd ["draw", "labels_here"] []
  f__law_sketch : ∃ f fd, Fun K "_law_sketch" "_law_sketch" s__law_sketch f fd ∧ mg "_law_sketch" = some (.ref f) ∧ Binds K fd ["draw", "most"] []
  f__law_made : ∃ f fd, Fun K "_law_made" "_law_made" s__law_made f fd ∧ mg "_law_made" = some (.ref f) ∧ Binds K fd ["sketch"] []
  f__law_break : ∃ f fd, Fun K "_law_break" "_law_break" s__law_break f fd ∧ mg "_law_break" = some (.ref f) ∧ Binds K fd ["sketch", "labelling_here"] []
  f__law_rows : ∃ f fd, Fun K "_law_rows" "_law_rows" s__law_rows f fd ∧ mg "_law_rows" = some (.ref f) ∧ Binds K fd ["labels_here", "size"] []
  f__law_ways : ∃ f fd, Fun K "_law_ways" "_law_ways" s__law_ways f fd ∧ mg "_law_ways" = some (.ref f) ∧ Binds K fd ["sketch", "size"] []
  f__law_sum : ∃ f fd, Fun K "_law_sum" "_law_sum" s__law_sum f fd ∧ mg "_law_sum" = some (.ref f) ∧ Binds K fd ["sketch", "size"] []
  k_RingProblem : ∃ f fd Ca, Mk K Ca f ∧ mg "RingProblem" = some (.ref Ca) ∧ Fun K "__init__" "RingProblem.__init__" s_RingProblem f fd ∧ Binds K fd ["self", "labels", "pairs"] []
  cf_RingProblem : ClsF K mg "RingProblem" ["labels", "pairs"]
  o_RingProblem : ∃ Cn, OwnIs K mg ownAll "RingProblem" Cn
  k_PathProblem : ∃ f fd Ca, Mk K Ca f ∧ mg "PathProblem" = some (.ref Ca) ∧ Fun K "__init__" "PathProblem.__init__" s_PathProblem f fd ∧ Binds K fd ["self", "labels", "pairs", "starts", "ends"] []
  cf_PathProblem : ClsF K mg "PathProblem" ["labels", "pairs", "starts", "ends"]
  o_PathProblem : ∃ Cn, OwnIs K mg ownAll "PathProblem" Cn
  r_BadNumber : ∃ C fI msg, ErrTxt P K mg "BadNumber" C fI "part" msg
  r_BadProblem : ∃ C fI msg, ErrTxt P K mg "BadProblem" C fI "part" msg
  is_BadNumber : ∃ C, IsC K mg errsAll "RoundError" "BadNumber" C
  is_BadProblem : ∃ C, IsC K mg errsAll "RoundError" "BadProblem" C
  top : ∃ Cr, mg "RoundError" = some (.ref Cr) ∧ ∀ c ∈ errsAll, ∀ Ca, mg c = some (.ref Ca) → PySem.W.exmOne K (.ref Ca) (.ref Cr) = some true
section
variable {P : Program} {w : World} {K : PySem.W.Frag} {mg : Str → Option Value} {base : Heap}
theorem ok__law_take (T : Txt P K mg) : Fnd P w K mg base "_law_take" s__law_take ["draw", "amount"] 3 m__law_take := by
  obtain ⟨f, fd, F, g, b⟩ := T.f__law_take
  obtain ⟨fM, fdM, FM, gM, bM⟩ := T.f__law_mixed
  exact ⟨mono_take, f, fd, ok_take F T.n_int (ok_mixed FM T.n_int) gM FM.kp bM, g, F, b⟩
theorem fld_part (T : Txt P K mg) : ∀ c ∈ errs_part, ∃ Ca fI msg, ErrTxt P K mg c Ca fI "part" msg := by
  intro c hc
  simp only [errs_part, List.mem_cons, List.mem_nil_iff, or_false] at hc
  rcases hc with rfl | rfl
  · exact T.r_BadNumber
  · exact T.r_BadProblem
theorem ofl_ends (T : Txt P K mg) : ∀ c ∈ cls_ends, ∃ fl, ClsF K mg c fl ∧ ("ends" : Str) ∈ fl := by
  intro c hc
  simp only [cls_ends, List.mem_cons, List.mem_nil_iff, or_false] at hc
  rcases hc with rfl
  · exact ⟨_, T.cf_PathProblem, by decide⟩
theorem ofl_labels (T : Txt P K mg) : ∀ c ∈ cls_labels, ∃ fl, ClsF K mg c fl ∧ ("labels" : Str) ∈ fl := by
  intro c hc
  simp only [cls_labels, List.mem_cons, List.mem_nil_iff, or_false] at hc
  rcases hc with rfl | rfl
  · exact ⟨_, T.cf_RingProblem, by decide⟩
  · exact ⟨_, T.cf_PathProblem, by decide⟩
theorem ofl_pairs (T : Txt P K mg) : ∀ c ∈ cls_pairs, ∃ fl, ClsF K mg c fl ∧ ("pairs" : Str) ∈ fl := by
  intro c hc
  simp only [cls_pairs, List.mem_cons, List.mem_nil_iff, or_false] at hc
  rcases hc with rfl | rfl
  · exact ⟨_, T.cf_RingProblem, by decide⟩
  · exact ⟨_, T.cf_PathProblem, by decide⟩
theorem ofl_starts (T : Txt P K mg) : ∀ c ∈ cls_starts, ∃ fl, ClsF K mg c fl ∧ ("starts" : Str) ∈ fl := by
  intro c hc
  simp only [cls_starts, List.mem_cons, List.mem_nil_iff, or_false] at hc
  rcases hc with rfl
  · exact ⟨_, T.cf_PathProblem, by decide⟩
def b_is_number : MS := (sRet (mAnd (mIsi "int" (mVar 0)) (mNot (mIsi "bool" (mVar 0)))))
abbrev m_is_number : MF := mFc 1 b_is_number
theorem ok_is_number (T : Txt P K mg) : Fnd P w K mg base "is_number" s_is_number ["thing"] 3 m_is_number := by
  obtain ⟨f, fd, F, g, b⟩ := T.f_is_number
  refine fn_fnd F sc_is_number g b fun cdv A outer s H E hr hgd => ?_
  exact (mss_one (ms_ret (me_and (me_isi (T := "int") (by decide) T.n_isinstance T.n_int boot_int (me_var (i := 0))) (me_one (me_not (me_isi (T := "bool") (by decide) T.n_isinstance T.n_bool boot_bool (me_var (i := 0))))))))
def b_is_between : MS := (sRet (mAnd (mCall m_is_number (aCons (mVar 0) aNil)) (mChain xLe xLe (mVar 1) (mVar 0) (mVar 2))))
abbrev m_is_between : MF := mFc 3 b_is_between
theorem ok_is_between (T : Txt P K mg) : Fnd P w K mg base "is_between" s_is_between ["thing", "low", "high"] 4 m_is_between := by
  obtain ⟨f, fd, F, g, b⟩ := T.f_is_between
  refine fn_fnd F sc_is_between g b fun cdv A outer s H E hr hgd => ?_
  exact (mss_one (ms_ret (me_and (me_callF (ok_is_number T) (takes_of rfl rfl rfl rfl) hgd (hr.mono (by decide)) (ma_cons (me_var (i := 0)) ma_nil)) (me_one (me_chain o_le o_le (me_var (i := 1)) (me_var (i := 0)) (me_var (i := 2)))))))
def b_is_list : MS := (sRet (mIsi2 "list" "tuple" (mVar 0)))
abbrev m_is_list : MF := mFc 1 b_is_list
theorem ok_is_list (T : Txt P K mg) : Fnd P w K mg base "is_list" s_is_list ["thing"] 3 m_is_list := by
  obtain ⟨f, fd, F, g, b⟩ := T.f_is_list
  refine fn_fnd F sc_is_list g b fun cdv A outer s H E hr hgd => ?_
  exact (mss_one (ms_ret (me_isi2 (T1 := "list") (T2 := "tuple") (by decide) (by decide) T.n_isinstance T.n_list T.n_tuple boot_list boot_tuple (me_var (i := 0)))))
def b_is_tuple : MS := (sRet (mAnd (mIsi "tuple" (mVar 0)) (mBin xEq (mCB cSeq fLen (aCons (mVar 0) aNil)) (mVar 1))))
abbrev m_is_tuple : MF := mFc 2 b_is_tuple
theorem ok_is_tuple (T : Txt P K mg) : Fnd P w K mg base "is_tuple" s_is_tuple ["thing", "size"] 3 m_is_tuple := by
  obtain ⟨f, fd, F, g, b⟩ := T.f_is_tuple
  refine fn_fnd F sc_is_tuple g b fun cdv A outer s H E hr hgd => ?_
  exact (mss_one (ms_ret (me_and (me_isi (T := "tuple") (by decide) T.n_isinstance T.n_tuple boot_tuple (me_var (i := 0))) (me_one (me_cmp (o_eq hr.units) (me_callB b_len T.n_len boot_len (ma_cons (me_var (i := 0)) ma_nil)) (me_var (i := 1)))))))
def b_need_between : MS := (sIf (tNot' (mB (mCall m_is_between (aCons (mVar 0) (aCons (mVar 1) (aCons (mVar 2) aNil)))))) (sRaise "BadNumber" "part" (aCons (mVar 3) aNil)) sNext)
abbrev m_need_between : MF := mFc 4 b_need_between
theorem ok_need_between (T : Txt P K mg) : Fnd P w K mg base "need_between" s_need_between ["number", "low", "high", "part"] 5 m_need_between := by
  obtain ⟨f, fd, F, g, b⟩ := T.f_need_between
  refine fn_fnd F sc_need_between g b fun cdv A outer s H E hr hgd => ?_
  exact (mss_one (ms_if (mt_not (mt_val (me_callF (ok_is_between T) (takes_of rfl rfl rfl rfl) hgd (hr.mono (by decide)) (ma_cons (me_var (i := 0)) (ma_cons (me_var (i := 1)) (ma_cons (me_var (i := 2)) ma_nil)))))) (mss_one (ms_raise T.r_BadNumber.choose_spec.choose_spec.choose_spec rfl (takes_of rfl rfl rfl rfl) hr (ma_cons (me_var (i := 3)) ma_nil))) mss_nil))
def b_is_labels : MS := (sSeq (sIf (tOr' (tNot' (mB (mCall m_is_list (aCons (mVar 1) aNil)))) (tNot' (mB (mCB cBls fAll (aCons (mLc (mItems (mVar 1)) (gN 2) mYes (mCall m_is_between (aCons (mVar 2) (aCons (mD (.int 0)) (aCons (mBin xSub (mVar 0) (mD (.int 1))) aNil)))) [2]) aNil))))) (sRet (mD (.bl false))) sNext) (sRet (mBin xEq (mSetLen (mVar 1)) (mCB cSeq fLen (aCons (mVar 1) aNil)))))
abbrev m_is_labels : MF := mFc 3 b_is_labels
theorem ok_is_labels (T : Txt P K mg) : Fnd P w K mg base "is_labels" s_is_labels ["labels", "thing"] 5 m_is_labels := by
  obtain ⟨f, fd, F, g, b⟩ := T.f_is_labels
  refine fn_fnd F sc_is_labels g b fun cdv A outer s H E hr hgd => ?_
  exact (mss_cons (ms_if (MWJ.t (mw_or (mt_not (mt_val (me_callF (ok_is_list T) (takes_of rfl rfl rfl rfl) hgd (hr.mono (by decide)) (ma_cons (me_var (i := 1)) ma_nil)))) (mw_or1 (mt_not (mt_val (me_callB (b_all rfl) T.n_all boot_all (ma_cons (me_lc rfl sc_is_labels.nd (lcj_name (own := [("item", 2)]) (mi_items (me_var (i := 1))) (blkOk_by (by rfl)) sc_is_labels.nd (fun _ _ _ _ _ => mts_nil) (fun _ _ _ _ _ => (me_callF (ok_is_between T) LamX.takes0 hgd (hr.mono (by decide)) (ma_cons (me_var (i := 2)) (ma_cons me_int (ma_cons (me_bin o_sub (me_var (i := 0)) me_int) ma_nil))))))) ma_nil))))))) (mss_one (ms_ret me_bl)) mss_nil) (mss_one (ms_ret (me_cmp (o_eq hr.units) (me_setLen rfl T.n_len T.n_set (me_var (i := 1))) (me_callB b_len T.n_len boot_len (ma_cons (me_var (i := 1)) ma_nil))))))
def b_is_pairs : MS := (sSeq (sIf (tNot' (mB (mCall m_is_list (aCons (mVar 1) aNil)))) (sRet (mD (.bl false))) sNext) (sSeq (sFor (mItems (mVar 1)) (gN 2) (sIf (tOr' (tNot' (mB (mCall m_is_tuple (aCons (mVar 2) (aCons (mD (.int 2)) aNil))))) (tNot' (mB (mCB cBls fAll (aCons (mLc (mItems (mVar 2)) (gN 3) mYes (mCall m_is_between (aCons (mVar 3) (aCons (mD (.int 0)) (aCons (mBin xSub (mVar 0) (mD (.int 1))) aNil)))) [3]) aNil))))) (sRet (mD (.bl false))) sNext)) (sRet (mBin xEq (mSetLenT (mVar 1)) (mCB cSeq fLen (aCons (mVar 1) aNil))))))
abbrev m_is_pairs : MF := mFc 4 b_is_pairs
theorem ok_is_pairs (T : Txt P K mg) : Fnd P w K mg base "is_pairs" s_is_pairs ["labels", "thing"] 5 m_is_pairs := by
  obtain ⟨f, fd, F, g, b⟩ := T.f_is_pairs
  refine fn_fnd F sc_is_pairs g b fun cdv A outer s H E hr hgd => ?_
  exact (mss_cons (ms_if (mt_not (mt_val (me_callF (ok_is_list T) (takes_of rfl rfl rfl rfl) hgd (hr.mono (by decide)) (ma_cons (me_var (i := 1)) ma_nil)))) (mss_one (ms_ret me_bl)) mss_nil) (mss_cons (ms_for PassesOwn.leaving rfl (mi_items (me_var (i := 1))) (mg_name (is := [2]) (i := 2) sc_is_pairs.nd) (mss_one (ms_if (MWJ.t (mw_or (mt_not (mt_val (me_callF (ok_is_tuple T) (takes_of rfl rfl rfl rfl) hgd (hr.mono (by decide)) (ma_cons (me_var (i := 2)) (ma_cons me_int ma_nil))))) (mw_or1 (mt_not (mt_val (me_callB (b_all rfl) T.n_all boot_all (ma_cons (me_lc rfl sc_is_pairs.nd (lcj_name (own := [("part", 3)]) (mi_items (me_var (i := 2))) (blkOk_by (by rfl)) sc_is_pairs.nd (fun _ _ _ _ _ => mts_nil) (fun _ _ _ _ _ => (me_callF (ok_is_between T) LamX.takes0 hgd (hr.mono (by decide)) (ma_cons (me_var (i := 3)) (ma_cons me_int (ma_cons (me_bin o_sub (me_var (i := 0)) me_int) ma_nil))))))) ma_nil))))))) (mss_one (ms_ret me_bl)) mss_nil))) (mss_one (ms_ret (me_cmp (o_eq hr.units) (me_setLenT rfl hr.units T.n_len T.n_set (me_var (i := 1))) (me_callB b_len T.n_len boot_len (ma_cons (me_var (i := 1)) ma_nil)))))))
def b_need_pairs : MS := (sSeq (sIf (tNot' (mB (mCall m_is_between (aCons (mVar 0) (aCons (mD (.int 1)) (aCons (mD (.int 12)) aNil)))))) (sRaise "BadProblem" "part" (aCons (mD (.str "labels")) aNil)) sNext) (sIf (tNot' (mB (mCall m_is_pairs (aCons (mVar 0) (aCons (mVar 1) aNil))))) (sRaise "BadProblem" "part" (aCons (mD (.str "pairs")) aNil)) sNext))
abbrev m_need_pairs : MF := mFc 2 b_need_pairs
theorem ok_need_pairs (T : Txt P K mg) : Fnd P w K mg base "need_pairs" s_need_pairs ["labels", "pairs"] 6 m_need_pairs := by
  obtain ⟨f, fd, F, g, b⟩ := T.f_need_pairs
  obtain ⟨t_MOST_LABELS, c_MOST_LABELS⟩ := T.c_MOST_LABELS
  refine fn_fnd F sc_need_pairs g b fun cdv A outer s H E hr hgd => ?_
  exact (mss_cons (ms_if (mt_not (mt_val (me_callF (ok_is_between T) (takes_of rfl rfl rfl rfl) hgd (hr.mono (by decide)) (ma_cons (me_var (i := 0)) (ma_cons me_int (ma_cons (me_globI c_MOST_LABELS) ma_nil)))))) (mss_one (ms_raise T.r_BadProblem.choose_spec.choose_spec.choose_spec rfl (takes_of rfl rfl rfl rfl) hr (ma_cons me_str ma_nil))) mss_nil) (mss_one (ms_if (mt_not (mt_val (me_callF (ok_is_pairs T) (takes_of rfl rfl rfl rfl) hgd (hr.mono (by decide)) (ma_cons (me_var (i := 0)) (ma_cons (me_var (i := 1)) ma_nil))))) (mss_one (ms_raise T.r_BadProblem.choose_spec.choose_spec.choose_spec rfl (takes_of rfl rfl rfl rfl) hr (ma_cons me_str ma_nil))) mss_nil)))
def b_ini_RingProblem : MS := (sSeq (sDrop (mCall m_need_pairs (aCons (mVar 1) (aCons (mVar 2) aNil)))) (sSeq (sFldS "RingProblem" "labels" (mVar 0) (mVar 1)) (sFldS "RingProblem" "pairs" (mVar 0) (mCB cSeq fTup (aCons (mCB (c1 cSrt) (f1 fSrt) (aCons (mVar 2) aNil)) aNil)))))
abbrev m_RingProblem : MF := mIni "RingProblem" 3 b_ini_RingProblem
theorem ini_RingProblem (T : Txt P K mg) : Ini P w K mg base "RingProblem" s_RingProblem ["labels", "pairs"] 7 m_RingProblem := by
  obtain ⟨f, fd, Ca, M, gm, F, bn⟩ := T.k_RingProblem
  exact ini_ini (k := 6) F sc_RingProblem M gm bn fun cdv A outer s H E hr hgd => (mss_cons (ms_expr (me_callF (ok_need_pairs T) (takes_of rfl rfl rfl rfl) hgd (hr.mono (by decide)) (ma_cons (me_var (i := 1)) (ma_cons (me_var (i := 2)) ma_nil)))) (mss_cons (ms_fldS T.cf_RingProblem (by decide) (me_var (i := 0)) (me_var (i := 1))) (mss_one (ms_fldS T.cf_RingProblem (by decide) (me_var (i := 0)) (me_callTy b_tuple T.n_tuple boot_tuple (ma_cons (me_callB b_sorted T.n_sorted boot_sorted (ma_cons (me_var (i := 2)) ma_nil)) ma_nil))))))
def b_ini_PathProblem : MS := (sSeq (sDrop (mCall m_need_pairs (aCons (mVar 1) (aCons (mVar 2) aNil)))) (sSeq (sIf (tNot' (mB (mCall m_is_labels (aCons (mVar 1) (aCons (mVar 3) aNil))))) (sRaise "BadProblem" "part" (aCons (mD (.str "starts")) aNil)) sNext) (sSeq (sIf (tNot' (mB (mCall m_is_labels (aCons (mVar 1) (aCons (mVar 4) aNil))))) (sRaise "BadProblem" "part" (aCons (mD (.str "ends")) aNil)) sNext) (sSeq (sFldS "PathProblem" "labels" (mVar 0) (mVar 1)) (sSeq (sFldS "PathProblem" "pairs" (mVar 0) (mCB cSeq fTup (aCons (mCB (c1 cSrt) (f1 fSrt) (aCons (mVar 2) aNil)) aNil))) (sSeq (sFldS "PathProblem" "starts" (mVar 0) (mCB cSeq fTup (aCons (mCB (c1 cSrt) (f1 fSrt) (aCons (mVar 3) aNil)) aNil))) (sFldS "PathProblem" "ends" (mVar 0) (mCB cSeq fTup (aCons (mCB (c1 cSrt) (f1 fSrt) (aCons (mVar 4) aNil)) aNil)))))))))
abbrev m_PathProblem : MF := mIni "PathProblem" 5 b_ini_PathProblem
theorem ini_PathProblem (T : Txt P K mg) : Ini P w K mg base "PathProblem" s_PathProblem ["labels", "pairs", "starts", "ends"] 7 m_PathProblem := by
  obtain ⟨f, fd, Ca, M, gm, F, bn⟩ := T.k_PathProblem
  exact ini_ini (k := 6) F sc_PathProblem M gm bn fun cdv A outer s H E hr hgd => (mss_cons (ms_expr (me_callF (ok_need_pairs T) (takes_of rfl rfl rfl rfl) hgd (hr.mono (by decide)) (ma_cons (me_var (i := 1)) (ma_cons (me_var (i := 2)) ma_nil)))) (mss_cons (ms_if (mt_not (mt_val (me_callF (ok_is_labels T) (takes_of rfl rfl rfl rfl) hgd (hr.mono (by decide)) (ma_cons (me_var (i := 1)) (ma_cons (me_var (i := 3)) ma_nil))))) (mss_one (ms_raise T.r_BadProblem.choose_spec.choose_spec.choose_spec rfl (takes_of rfl rfl rfl rfl) hr (ma_cons me_str ma_nil))) mss_nil) (mss_cons (ms_if (mt_not (mt_val (me_callF (ok_is_labels T) (takes_of rfl rfl rfl rfl) hgd (hr.mono (by decide)) (ma_cons (me_var (i := 1)) (ma_cons (me_var (i := 4)) ma_nil))))) (mss_one (ms_raise T.r_BadProblem.choose_spec.choose_spec.choose_spec rfl (takes_of rfl rfl rfl rfl) hr (ma_cons me_str ma_nil))) mss_nil) (mss_cons (ms_fldS T.cf_PathProblem (by decide) (me_var (i := 0)) (me_var (i := 1))) (mss_cons (ms_fldS T.cf_PathProblem (by decide) (me_var (i := 0)) (me_callTy b_tuple T.n_tuple boot_tuple (ma_cons (me_callB b_sorted T.n_sorted boot_sorted (ma_cons (me_var (i := 2)) ma_nil)) ma_nil))) (mss_cons (ms_fldS T.cf_PathProblem (by decide) (me_var (i := 0)) (me_callTy b_tuple T.n_tuple boot_tuple (ma_cons (me_callB b_sorted T.n_sorted boot_sorted (ma_cons (me_var (i := 3)) ma_nil)) ma_nil))) (mss_one (ms_fldS T.cf_PathProblem (by decide) (me_var (i := 0)) (me_callTy b_tuple T.n_tuple boot_tuple (ma_cons (me_callB b_sorted T.n_sorted boot_sorted (ma_cons (me_var (i := 4)) ma_nil)) ma_nil))))))))))
def b_need_problem : MS := (sIf (tNot' (mB (mIsO2 ownAll "RingProblem" "PathProblem" (mVar 0)))) (sRaise "BadProblem" "part" (aCons (mD .non) aNil)) sNext)
abbrev m_need_problem : MF := mFc 1 b_need_problem
theorem ok_need_problem (T : Txt P K mg) : Fnd P w K mg base "need_problem" s_need_problem ["thing"] 3 m_need_problem := by
  obtain ⟨f, fd, F, g, b⟩ := T.f_need_problem
  refine fn_fnd F sc_need_problem g b fun cdv A outer s H E hr hgd => ?_
  exact (mss_one (ms_if (mt_not (mt_val (me_isO2 (T.o_RingProblem).choose_spec (T.o_PathProblem).choose_spec T.n_isinstance (me_var (i := 0))))) (mss_one (ms_raise T.r_BadProblem.choose_spec.choose_spec.choose_spec rfl (takes_of rfl rfl rfl rfl) hr (ma_cons me_non ma_nil))) mss_nil))
def b_behind_of : MS := (sSeq (sSet 1 (mLcN (mRange1 (aCons (mFldI cls_labels "labels" (mVar 0)) aNil)) (gN 4) mYes (mLstN aNil) [4])) (sSeq (sFor (mItems (mFldI cls_pairs "pairs" (mVar 0))) (gT [(gN 2), (gN 3)]) (sDrop (mAppend (mIxW (mVar 1) (mVar 2)) (aCons (mVar 3) aNil)))) (sRet (mVar 1))))
abbrev m_behind_of : MF := mFc 5 b_behind_of
theorem ok_behind_of (T : Txt P K mg) : Fnd P w K mg base "behind_of" s_behind_of ["problem"] 3 m_behind_of := by
  obtain ⟨f, fd, F, g, b⟩ := T.f_behind_of
  refine fn_fnd F sc_behind_of g b fun cdv A outer s H E hr hgd => ?_
  exact (mss_cons (ms_setLcN (i := 1) rfl sc_behind_of.nd (lcj_name (own := [("label", 4)]) (mi_range1 T.n_range (ma_cons (me_fldI (ofl_labels T) (me_var (i := 0))) ma_nil)) (blkOk_by (by rfl)) sc_behind_of.nd (fun _ _ _ _ _ => mts_nil) (fun _ _ _ _ _ => (me_lstN ma_nil))) rfl) (mss_cons (ms_for PassesOwn.leaving rfl (mi_items (me_fldI (ofl_pairs T) (me_var (i := 0)))) (mg_tup rfl (mgs_cons (mg_name (is := [2, 3]) (i := 2) sc_behind_of.nd) (mgs_cons (mg_name (is := [2, 3]) (i := 3) sc_behind_of.nd) mgs_nil))) (mss_one (ms_expr (me_append (me_ixW (me_var (i := 1)) (me_var (i := 2))) (ma_cons (me_var (i := 3)) ma_nil))))) (mss_one (ms_ret (me_var (i := 1))))))
def b_ways_to : MS := (sSeq (sSet 3 (mCall m_behind_of (aCons (mVar 0) aNil))) (sSeq (sSet 4 (mLstN (aCons (mLc (mRange1 (aCons (mFldI cls_labels "labels" (mVar 0)) aNil)) (gN 7) mYes (mIf (mB (mBin xIn (mVar 7) (mVar 1))) (mD (.int 1)) (mD (.int 0))) [7]) aNil))) (sSeq (sFor (mRange1 (aCons (mVar 2) aNil)) (gN 5) (sSeq (sSet 6 (mBin xIx (mVar 4) (mD (.int (-1))))) (sDrop (mAppend (mVar 4) (aCons (mLc (mRange1 (aCons (mFldI cls_labels "labels" (mVar 0)) aNil)) (gN 7) mYes (mCB cNums fSum (aCons (mLc (mItems (mBin xIx (mVar 3) (mVar 7))) (gN 8) mYes (mBin xIx (mVar 6) (mVar 8)) [8]) aNil)) [7]) aNil))))) (sRet (mVar 4)))))
abbrev m_ways_to : MF := mFc 9 b_ways_to
theorem ok_ways_to (T : Txt P K mg) : Fnd P w K mg base "ways_to" s_ways_to ["problem", "goals", "steps"] 4 m_ways_to := by
  obtain ⟨f, fd, F, g, b⟩ := T.f_ways_to
  refine fn_fnd F sc_ways_to g b fun cdv A outer s H E hr hgd => ?_
  exact (mss_cons (ms_set (i := 3) sc_ways_to.nd (me_callF (ok_behind_of T) (takes_of rfl rfl rfl rfl) hgd (hr.mono (by decide)) (ma_cons (me_var (i := 0)) ma_nil))) (mss_cons (ms_set (i := 4) sc_ways_to.nd (me_lstN (ma_cons (me_lc rfl sc_ways_to.nd (lcj_name (own := [("label", 7)]) (mi_range1 T.n_range (ma_cons (me_fldI (ofl_labels T) (me_var (i := 0))) ma_nil)) (blkOk_by (by rfl)) sc_ways_to.nd (fun _ _ _ _ _ => mts_nil) (fun _ _ _ _ _ => (me_if (mt_cmp o_in (me_var (i := 7)) (me_var (i := 1))) me_int me_int)))) ma_nil))) (mss_cons (ms_for PassesOwn.leaving rfl (mi_range1 T.n_range (ma_cons (me_var (i := 2)) ma_nil)) (mg_name (is := [5]) (i := 5) sc_ways_to.nd) (mss_cons (ms_set (i := 6) sc_ways_to.nd (me_ix (me_var (i := 4)) me_neg)) (mss_one (ms_expr (me_append (me_var (i := 4)) (ma_cons (me_lc rfl sc_ways_to.nd (lcj_name (own := [("label", 7)]) (mi_range1 T.n_range (ma_cons (me_fldI (ofl_labels T) (me_var (i := 0))) ma_nil)) (blkOk_by (by rfl)) sc_ways_to.nd (fun _ _ _ _ _ => mts_nil) (fun _ _ _ _ _ => (me_callB (b_sum rfl) T.n_sum boot_sum (ma_cons (me_lc rfl sc_ways_to.nd (lcj_name (own := [("other", 8)]) (mi_items (me_ix (me_var (i := 3)) (me_var (i := 7)))) (blkOk_by (by rfl)) sc_ways_to.nd (fun _ _ _ _ _ => mts_nil) (fun _ _ _ _ _ => (me_ix (me_var (i := 6)) (me_var (i := 8)))))) ma_nil))))) ma_nil)))))) (mss_one (ms_ret (me_var (i := 4)))))))
def b_starts_of : MS := (sSeq (sIf (mB (mIsO ownAll "PathProblem" (mVar 0))) (sSeq (sSet 2 (mCall m_ways_to (aCons (mVar 0) (aCons (mFldI cls_ends "ends" (mVar 0)) (aCons (mBin xSub (mVar 1) (mD (.int 1))) aNil))))) (sRet (mLc (mItems (mFldI cls_starts "starts" (mVar 0))) (gN 4) mYes (mTup (aCons (mVar 4) (aCons (mVar 2) aNil))) [4]))) sNext) (sSeq (sSet 3 (mLstN aNil)) (sSeq (sFor (mRange1 (aCons (mFldI cls_labels "labels" (mVar 0)) aNil)) (gN 4) (sSeq (sSet 5 (mLc (mItems (mFldI cls_pairs "pairs" (mVar 0))) (gT [(gN 6), (gN 7)]) (mB (mBin xEq (mVar 7) (mVar 4))) (mVar 6) [6, 7])) (sDrop (mAppend (mVar 3) (aCons (mTup (aCons (mVar 4) (aCons (mCall m_ways_to (aCons (mVar 0) (aCons (mVar 5) (aCons (mBin xSub (mVar 1) (mD (.int 1))) aNil)))) aNil))) aNil))))) (sRet (mVar 3)))))
abbrev m_starts_of : MF := mFc 8 b_starts_of
theorem ok_starts_of (T : Txt P K mg) : Fnd P w K mg base "starts_of" s_starts_of ["problem", "size"] 5 m_starts_of := by
  obtain ⟨f, fd, F, g, b⟩ := T.f_starts_of
  refine fn_fnd F sc_starts_of g b fun cdv A outer s H E hr hgd => ?_
  exact (mss_cons (ms_if (mt_val (me_isO (T.o_PathProblem).choose_spec T.n_isinstance (me_var (i := 0)))) (mss_cons (ms_set (i := 2) sc_starts_of.nd (me_callF (ok_ways_to T) (takes_of rfl rfl rfl rfl) hgd (hr.mono (by decide)) (ma_cons (me_var (i := 0)) (ma_cons (me_fldI (ofl_ends T) (me_var (i := 0))) (ma_cons (me_bin o_sub (me_var (i := 1)) me_int) ma_nil))))) (mss_one (ms_ret (me_lc rfl sc_starts_of.nd (lcj_name (own := [("label", 4)]) (mi_items (me_fldI (ofl_starts T) (me_var (i := 0)))) (blkOk_by (by rfl)) sc_starts_of.nd (fun _ _ _ _ _ => mts_nil) (fun _ _ _ _ _ => (me_tup (ma_cons (me_var (i := 4)) (ma_cons (me_var (i := 2)) ma_nil))))))))) mss_nil) (mss_cons (ms_set (i := 3) sc_starts_of.nd (me_lstN ma_nil)) (mss_cons (ms_for PassesOwn.leaving rfl (mi_range1 T.n_range (ma_cons (me_fldI (ofl_labels T) (me_var (i := 0))) ma_nil)) (mg_name (is := [4]) (i := 4) sc_starts_of.nd) (mss_cons (ms_setLc (i := 5) rfl sc_starts_of.nd (lcj_tup (own := [("one", 6), ("other", 7)]) (t := (gCons (gName 6) (gCons (gName 7) gNil))) (n := 2) (mi_items (me_fldI (ofl_pairs T) (me_var (i := 0)))) (blkOk_by (by rfl)) rfl (fun _ _ _ _ _ => (mgts_cons (mgt_name (i := 6) sc_starts_of.nd) (mgts_cons (mgt_name (i := 7) sc_starts_of.nd) mgts_nil))) (fun _ _ _ _ _ => (mts_one (mt_cmp (o_eq hr.units) (me_var (i := 7)) (me_var (i := 4))))) (fun _ _ _ _ _ => (me_var (i := 6)))) rfl) (mss_one (ms_expr (me_append (me_var (i := 3)) (ma_cons (me_tup (ma_cons (me_var (i := 4)) (ma_cons (me_callF (ok_ways_to T) (takes_of rfl rfl rfl rfl) hgd (hr.mono (by decide)) (ma_cons (me_var (i := 0)) (ma_cons (me_var (i := 5)) (ma_cons (me_bin o_sub (me_var (i := 1)) me_int) ma_nil)))) ma_nil))) ma_nil)))))) (mss_one (ms_ret (me_var (i := 3)))))))
def b_some_labelling : MS := (sSeq (sDrop (mCall m_need_problem (aCons (mVar 0) aNil))) (sSeq (sDrop (mCall m_need_between (aCons (mVar 1) (aCons (mD (.int 1)) (aCons (mD (.int 400)) (aCons (mD (.str "size")) aNil)))))) (sSeq (sSet 2 (mCall m_behind_of (aCons (mVar 0) aNil))) (sSeq (sFor (mItems (mCall m_starts_of (aCons (mVar 0) (aCons (mVar 1) aNil)))) (gT [(gN 3), (gN 4)]) (sIf (mB (mBin xGt (mBin xIx (mBin xIx (mVar 4) (mBin xSub (mVar 1) (mD (.int 1)))) (mVar 3)) (mD (.int 0)))) (sSeq (sSet 5 (mLstN (aCons (mVar 3) aNil))) (sSeq (sFor (mDown (aCons (mBin xSub (mVar 1) (mD (.int 2))) (aCons (mD (.int (-1))) (aCons (mD (.int (-1))) aNil)))) (gN 6) (sDrop (mAppend (mVar 5) (aCons (mBin xIx (mLc (mItems (mBin xIx (mVar 2) (mBin xIx (mVar 5) (mD (.int (-1)))))) (gN 7) (mB (mBin xGt (mBin xIx (mBin xIx (mVar 4) (mVar 6)) (mVar 7)) (mD (.int 0)))) (mVar 7) [7]) (mD (.int 0))) aNil)))) (sRet (mCB cSeq fTup (aCons (mVar 5) aNil))))) sNext)) (sRet (mD .non))))))
abbrev m_some_labelling : MF := mFc 8 b_some_labelling
theorem ok_some_labelling (T : Txt P K mg) : Fnd P w K mg base "some_labelling" s_some_labelling ["problem", "size"] 6 m_some_labelling := by
  obtain ⟨f, fd, F, g, b⟩ := T.f_some_labelling
  obtain ⟨t_MOST_HOUSES, c_MOST_HOUSES⟩ := T.c_MOST_HOUSES
  refine fn_fnd F sc_some_labelling g b fun cdv A outer s H E hr hgd => ?_
  exact (mss_cons (ms_expr (me_callF (ok_need_problem T) (takes_of rfl rfl rfl rfl) hgd (hr.mono (by decide)) (ma_cons (me_var (i := 0)) ma_nil))) (mss_cons (ms_expr (me_callF (ok_need_between T) (takes_of rfl rfl rfl rfl) hgd (hr.mono (by decide)) (ma_cons (me_var (i := 1)) (ma_cons me_int (ma_cons (me_globI c_MOST_HOUSES) (ma_cons me_str ma_nil)))))) (mss_cons (ms_set (i := 2) sc_some_labelling.nd (me_callF (ok_behind_of T) (takes_of rfl rfl rfl rfl) hgd (hr.mono (by decide)) (ma_cons (me_var (i := 0)) ma_nil))) (mss_cons (ms_for PassesOwn.leaving rfl (mi_items (me_callF (ok_starts_of T) (takes_of rfl rfl rfl rfl) hgd (hr.mono (by decide)) (ma_cons (me_var (i := 0)) (ma_cons (me_var (i := 1)) ma_nil)))) (mg_tup rfl (mgs_cons (mg_name (is := [3, 4]) (i := 3) sc_some_labelling.nd) (mgs_cons (mg_name (is := [3, 4]) (i := 4) sc_some_labelling.nd) mgs_nil))) (mss_one (ms_if (mt_cmp o_gt (me_ix (me_ix (me_var (i := 4)) (me_bin o_sub (me_var (i := 1)) me_int)) (me_var (i := 3))) me_int) (mss_cons (ms_set (i := 5) sc_some_labelling.nd (me_lstN (ma_cons (me_var (i := 3)) ma_nil))) (mss_cons (ms_for PassesOwn.leaving rfl (mi_down T.n_range (ma_cons (me_bin o_sub (me_var (i := 1)) me_int) (ma_cons me_neg (ma_cons me_neg ma_nil)))) (mg_name (is := [6]) (i := 6) sc_some_labelling.nd) (mss_one (ms_expr (me_append (me_var (i := 5)) (ma_cons (me_ix (me_lc rfl sc_some_labelling.nd (lcj_name (own := [("label", 7)]) (mi_items (me_ix (me_var (i := 2)) (me_ix (me_var (i := 5)) me_neg))) (blkOk_by (by rfl)) sc_some_labelling.nd (fun _ _ _ _ _ => (mts_one (mt_cmp o_gt (me_ix (me_ix (me_var (i := 4)) (me_var (i := 6))) (me_var (i := 7))) me_int))) (fun _ _ _ _ _ => (me_var (i := 7))))) me_int) ma_nil))))) (mss_one (ms_ret (me_callTy b_tuple T.n_tuple boot_tuple (ma_cons (me_var (i := 5)) ma_nil)))))) mss_nil))) (mss_one (ms_ret me_non))))))
def b_how_many : MS := (sSeq (sDrop (mCall m_need_problem (aCons (mVar 0) aNil))) (sSeq (sDrop (mCall m_need_between (aCons (mVar 1) (aCons (mD (.int 1)) (aCons (mD (.int 400)) (aCons (mD (.str "size")) aNil)))))) (sRet (mCB cNums fSum (aCons (mLc (mItems (mCall m_starts_of (aCons (mVar 0) (aCons (mVar 1) aNil)))) (gT [(gN 2), (gN 3)]) mYes (mBin xIx (mBin xIx (mVar 3) (mBin xSub (mVar 1) (mD (.int 1)))) (mVar 2)) [2, 3]) aNil)))))
abbrev m_how_many : MF := mFc 4 b_how_many
theorem ok_how_many (T : Txt P K mg) : Fnd P w K mg base "how_many" s_how_many ["problem", "size"] 6 m_how_many := by
  obtain ⟨f, fd, F, g, b⟩ := T.f_how_many
  obtain ⟨t_MOST_HOUSES, c_MOST_HOUSES⟩ := T.c_MOST_HOUSES
  refine fn_fnd F sc_how_many g b fun cdv A outer s H E hr hgd => ?_
  exact (mss_cons (ms_expr (me_callF (ok_need_problem T) (takes_of rfl rfl rfl rfl) hgd (hr.mono (by decide)) (ma_cons (me_var (i := 0)) ma_nil))) (mss_cons (ms_expr (me_callF (ok_need_between T) (takes_of rfl rfl rfl rfl) hgd (hr.mono (by decide)) (ma_cons (me_var (i := 1)) (ma_cons me_int (ma_cons (me_globI c_MOST_HOUSES) (ma_cons me_str ma_nil)))))) (mss_one (ms_ret (me_callB (b_sum rfl) T.n_sum boot_sum (ma_cons (me_lc rfl sc_how_many.nd (lcj_tup (own := [("first", 2), ("ways", 3)]) (t := (gCons (gName 2) (gCons (gName 3) gNil))) (n := 2) (mi_items (me_callF (ok_starts_of T) (takes_of rfl rfl rfl rfl) hgd (hr.mono (by decide)) (ma_cons (me_var (i := 0)) (ma_cons (me_var (i := 1)) ma_nil)))) (blkOk_by (by rfl)) rfl (fun _ _ _ _ _ => (mgts_cons (mgt_name (i := 2) sc_how_many.nd) (mgts_cons (mgt_name (i := 3) sc_how_many.nd) mgts_nil))) (fun _ _ _ _ _ => mts_nil) (fun _ _ _ _ _ => (me_ix (me_ix (me_var (i := 3)) (me_bin o_sub (me_var (i := 1)) me_int)) (me_var (i := 2)))))) ma_nil))))))
def b__law_pick : MS := (sRet (mBin xIx (mVar 1) (mCall m__law_take (aCons (mVar 0) (aCons (mCB cSeq fLen (aCons (mVar 1) aNil)) aNil)))))
abbrev m__law_pick : MF := mFc 2 b__law_pick
theorem ok__law_pick (T : Txt P K mg) : Fnd P w K mg base "_law_pick" s__law_pick ["draw", "some"] 4 m__law_pick := by
  obtain ⟨f, fd, F, g, b⟩ := T.f__law_pick
  refine fn_fnd F sc__law_pick g b fun cdv A outer s H E hr hgd => ?_
  exact (mss_one (ms_ret (me_ix (me_var (i := 1)) (me_callF (ok__law_take T) (takes_of rfl rfl rfl rfl) hgd (hr.mono (by decide)) (ma_cons (me_var (i := 0)) (ma_cons (me_callB b_len T.n_len boot_len (ma_cons (me_var (i := 1)) ma_nil)) ma_nil))))))
def b__law_shuffled : MS := (sSeq (sPar 2 3 (aCons (mListN (mVar 1)) (aCons (mLstN aNil) aNil))) (sSeq (sWhile (mB (mBin xNe (mVar 2) (mLst aNil))) (sDrop (mAppend (mVar 3) (aCons (mPop (mVar 2) (aCons (mCall m__law_take (aCons (mVar 0) (aCons (mCB cSeq fLen (aCons (mVar 2) aNil)) aNil))) aNil)) aNil)))) (sRet (mVar 3))))
abbrev m__law_shuffled : MF := mFc 4 b__law_shuffled
theorem ok__law_shuffled (T : Txt P K mg) : Fnd P w K mg base "_law_shuffled" s__law_shuffled ["draw", "some"] 4 m__law_shuffled := by
  obtain ⟨f, fd, F, g, b⟩ := T.f__law_shuffled
  refine fn_fnd F sc__law_shuffled g b fun cdv A outer s H E hr hgd => ?_
  exact (mss_cons (ms_par (i := 2) (j := 3) rfl sc__law_shuffled.nd (ma_cons (me_listN T.n_list (me_var (i := 1))) (ma_cons (me_lstN ma_nil) ma_nil))) (mss_cons (ms_while PassesOwn.leaving (mt_cmp (o_ne hr.units) (me_var (i := 2)) (me_lst ma_nil)) (mss_one (ms_expr (me_append (me_var (i := 3)) (ma_cons (me_pop (me_var (i := 2)) (ma_cons (me_callF (ok__law_take T) (takes_of rfl rfl rfl rfl) hgd (hr.mono (by decide)) (ma_cons (me_var (i := 0)) (ma_cons (me_callB b_len T.n_len boot_len (ma_cons (me_var (i := 2)) ma_nil)) ma_nil))) ma_nil)) ma_nil))))) (mss_one (ms_ret (me_var (i := 3))))))
def b__law_pairs : MS := (sSeq (sParW [2, 3] (aCons (mCall m__law_take (aCons (mVar 0) (aCons (mD (.int 4)) aNil))) (aCons (mLstN aNil) aNil))) (sSeq (sFor (mRange1 (aCons (mVar 1) aNil)) (gN 4) (sFor (mRange1 (aCons (mVar 1) aNil)) (gN 5) (sIf (mB (mBin xEq (mCall m__law_take (aCons (mVar 0) (aCons (mBin xIx (mLst (aCons (mD (.int 2)) (aCons (mD (.int 3)) (aCons (mD (.int 5)) (aCons (mD (.int 8)) aNil))))) (mVar 2)) aNil))) (mD (.int 0)))) (sDrop (mAppend (mVar 3) (aCons (mTup (aCons (mVar 4) (aCons (mVar 5) aNil))) aNil))) sNext))) (sSeq (sIf (mB (mBin xGt (mVar 2) (mD (.int 1)))) (sSet 3 (mBin xAdd (mVar 3) (mLc (mRange1 (aCons (mVar 1) aNil)) (gN 4) (mB (mBin xNotInD (mTup (aCons (mVar 4) (aCons (mBin xMod (mBin xAdd (mVar 4) (mD (.int 1))) (mVar 1)) aNil))) (mVar 3))) (mTup (aCons (mVar 4) (aCons (mBin xMod (mBin xAdd (mVar 4) (mD (.int 1))) (mVar 1)) aNil))) [4]))) sNext) (sRet (mCall m__law_shuffled (aCons (mVar 0) (aCons (mFz (mVar 3)) aNil)))))))
abbrev m__law_pairs : MF := mFc 6 b__law_pairs
theorem ok__law_pairs (T : Txt P K mg) : Fnd P w K mg base "_law_pairs" s__law_pairs ["draw", "labels_here"] 5 m__law_pairs := by
  obtain ⟨f, fd, F, g, b⟩ := T.f__law_pairs
  refine fn_fnd F sc__law_pairs g b fun cdv A outer s H E hr hgd => ?_
  exact (mss_cons (ms_parW rfl (mgw_cons (i := 2) (mgw_cons (i := 3) mgw_nil sc__law_pairs.nd) sc__law_pairs.nd) (ma_cons (me_callF (ok__law_take T) (takes_of rfl rfl rfl rfl) hgd (hr.mono (by decide)) (ma_cons (me_var (i := 0)) (ma_cons me_int ma_nil))) (ma_cons (me_lstN ma_nil) ma_nil))) (mss_cons (ms_for PassesOwn.leaving rfl (mi_range1 T.n_range (ma_cons (me_var (i := 1)) ma_nil)) (mg_name (is := [4]) (i := 4) sc__law_pairs.nd) (mss_one (ms_for PassesOwn.leaving rfl (mi_range1 T.n_range (ma_cons (me_var (i := 1)) ma_nil)) (mg_name (is := [5]) (i := 5) sc__law_pairs.nd) (mss_one (ms_if (mt_cmp (o_eq hr.units) (me_callF (ok__law_take T) (takes_of rfl rfl rfl rfl) hgd (hr.mono (by decide)) (ma_cons (me_var (i := 0)) (ma_cons (me_ix (me_lst (ma_cons me_int (ma_cons me_int (ma_cons me_int (ma_cons me_int ma_nil))))) (me_var (i := 2))) ma_nil))) me_int) (mss_one (ms_expr (me_append (me_var (i := 3)) (ma_cons (me_tup (ma_cons (me_var (i := 4)) (ma_cons (me_var (i := 5)) ma_nil))) ma_nil)))) mss_nil))))) (mss_cons (ms_if (mt_cmp o_gt (me_var (i := 2)) me_int) (mss_one (ms_set (i := 3) sc__law_pairs.nd (me_bin o_add (me_var (i := 3)) (me_lc rfl sc__law_pairs.nd (lcj_name (own := [("one", 4)]) (mi_range1 T.n_range (ma_cons (me_var (i := 1)) ma_nil)) (blkOk_by (by rfl)) sc__law_pairs.nd (fun _ _ _ _ _ => (mts_one (mt_cmp (o_notInD (un65 hr)) (me_tup (ma_cons (me_var (i := 4)) (ma_cons (me_bin o_mod (me_bin o_add (me_var (i := 4)) me_int) (me_var (i := 1))) ma_nil))) (me_var (i := 3))))) (fun _ _ _ _ _ => (me_tup (ma_cons (me_var (i := 4)) (ma_cons (me_bin o_mod (me_bin o_add (me_var (i := 4)) me_int) (me_var (i := 1))) ma_nil))))))))) mss_nil) (mss_one (ms_ret (me_callF (ok__law_shuffled T) (takes_of rfl rfl rfl rfl) hgd (hr.mono (by decide)) (ma_cons (me_var (i := 0)) (ma_cons (me_fz (me_var (i := 3))) ma_nil))))))))
def b__law_some_labels : MS := (sRet (mSl (mCall m__law_shuffled (aCons (mVar 0) (aCons (mLstRg1 (mVar 1)) aNil))) pN (pS (mCall m__law_take (aCons (mVar 0) (aCons (mBin xAdd (mVar 1) (mD (.int 1))) aNil))))))
abbrev m__law_some_labels : MF := mFc 2 b__law_some_labels
theorem ok__law_some_labels (T : Txt P K mg) : Fnd P w K mg base "_law_some_labels" s__law_some_labels ["draw", "labels_here"] 5 m__law_some_labels := by
  obtain ⟨f, fd, F, g, b⟩ := T.f__law_some_labels
  refine fn_fnd F sc__law_some_labels g b fun cdv A outer s H E hr hgd => ?_
  exact (mss_one (ms_ret (me_slice (me_callF (ok__law_shuffled T) (takes_of rfl rfl rfl rfl) hgd (hr.mono (by decide)) (ma_cons (me_var (i := 0)) (ma_cons (me_lstRg1 rfl T.n_list T.n_range (me_var (i := 1))) ma_nil))) mp_none (mp_some (me_callF (ok__law_take T) (takes_of rfl rfl rfl rfl) hgd (hr.mono (by decide)) (ma_cons (me_var (i := 0)) (ma_cons (me_bin o_add (me_var (i := 1)) me_int) ma_nil)))))))
def b__law_sketch : MS := (sSeq (sSet 2 (mBin xAdd (mD (.int 1)) (mCall m__law_take (aCons (mVar 0) (aCons (mVar 1) aNil))))) (sSeq (sSet 3 (mDispN ["labels", "pairs", "starts", "ends"] (aCons (mVar 2) (aCons (mCall m__law_pairs (aCons (mVar 0) (aCons (mVar 2) aNil))) (aCons (mD .non) (aCons (mD .non) aNil)))))) (sSeq (sIf (mB (mBin xEq (mCall m__law_take (aCons (mVar 0) (aCons (mD (.int 2)) aNil))) (mD (.int 0)))) (sPar2 (fPut 3 "starts") (fPut 3 "ends") (aCons (mCall m__law_some_labels (aCons (mVar 0) (aCons (mVar 2) aNil))) (aCons (mCall m__law_some_labels (aCons (mVar 0) (aCons (mVar 2) aNil))) aNil))) sNext) (sRet (mFz (mVar 3))))))
abbrev m__law_sketch : MF := mFc 4 b__law_sketch
theorem ok__law_sketch (T : Txt P K mg) : Fnd P w K mg base "_law_sketch" s__law_sketch ["draw", "most"] 6 m__law_sketch := by
  obtain ⟨f, fd, F, g, b⟩ := T.f__law_sketch
  refine fn_fnd F sc__law_sketch g b fun cdv A outer s H E hr hgd => ?_
  exact (mss_cons (ms_set (i := 2) sc__law_sketch.nd (me_bin o_add me_int (me_callF (ok__law_take T) (takes_of rfl rfl rfl rfl) hgd (hr.mono (by decide)) (ma_cons (me_var (i := 0)) (ma_cons (me_var (i := 1)) ma_nil))))) (mss_cons (ms_set (i := 3) sc__law_sketch.nd (me_dispN (mdj_cons (me_var (i := 2)) (mdj_cons (me_callF (ok__law_pairs T) (takes_of rfl rfl rfl rfl) hgd (hr.mono (by decide)) (ma_cons (me_var (i := 0)) (ma_cons (me_var (i := 2)) ma_nil))) (mdj_cons me_non (mdj_cons me_non mdj_nil)))))) (mss_cons (ms_if (mt_cmp (o_eq hr.units) (me_callF (ok__law_take T) (takes_of rfl rfl rfl rfl) hgd (hr.mono (by decide)) (ma_cons (me_var (i := 0)) (ma_cons me_int ma_nil))) me_int) (mss_one (ms_par2 rfl (mts_put (un1 hr) (me_var (i := 3))) (mts_put (un1 hr) (me_var (i := 3))) (ma_cons (me_callF (ok__law_some_labels T) (takes_of rfl rfl rfl rfl) hgd (hr.mono (by decide)) (ma_cons (me_var (i := 0)) (ma_cons (me_var (i := 2)) ma_nil))) (ma_cons (me_callF (ok__law_some_labels T) (takes_of rfl rfl rfl rfl) hgd (hr.mono (by decide)) (ma_cons (me_var (i := 0)) (ma_cons (me_var (i := 2)) ma_nil))) ma_nil)))) mss_nil) (mss_one (ms_ret (me_fz (me_var (i := 3))))))))
def b__law_made : MS := (sSeq (sIf (mB (mBin xIsN (mDGet (mVar 0) (mD (.str "starts"))) (mD .non))) (sRet (mCall m_RingProblem (aCons (mDGet (mVar 0) (mD (.str "labels"))) (aCons (mDGet (mVar 0) (mD (.str "pairs"))) aNil)))) sNext) (sRet (mCall m_PathProblem (aCons (mDGet (mVar 0) (mD (.str "labels"))) (aCons (mDGet (mVar 0) (mD (.str "pairs"))) (aCons (mDGet (mVar 0) (mD (.str "starts"))) (aCons (mDGet (mVar 0) (mD (.str "ends"))) aNil)))))))
abbrev m__law_made : MF := mFc 1 b__law_made
theorem ok__law_made (T : Txt P K mg) : Fnd P w K mg base "_law_made" s__law_made ["sketch"] 9 m__law_made := by
  obtain ⟨f, fd, F, g, b⟩ := T.f__law_made
  refine fn_fnd F sc__law_made g b fun cdv A outer s H E hr hgd => ?_
  exact (mss_cons (ms_if (mt_cmp o_isN (me_dget (un1 hr) (me_var (i := 0)) me_str) me_non) (mss_one (ms_ret (me_make (ini_RingProblem T) (takes_of rfl rfl rfl rfl) hgd (hr.mono (by decide)) (ma_cons (me_dget (un1 hr) (me_var (i := 0)) me_str) (ma_cons (me_dget (un1 hr) (me_var (i := 0)) me_str) ma_nil))))) mss_nil) (mss_one (ms_ret (me_make (ini_PathProblem T) (takes_of rfl rfl rfl rfl) hgd (hr.mono (by decide)) (ma_cons (me_dget (un1 hr) (me_var (i := 0)) me_str) (ma_cons (me_dget (un1 hr) (me_var (i := 0)) me_str) (ma_cons (me_dget (un1 hr) (me_var (i := 0)) me_str) (ma_cons (me_dget (un1 hr) (me_var (i := 0)) me_str) ma_nil))))))))
def b__law_break : MS := (sSeq (sPar 2 3 (aCons (mCB cSeq fLen (aCons (mVar 1) aNil)) (aCons (mBin xNotN (mDGet (mVar 0) (mD (.str "starts"))) (mD .non)) aNil))) (sSeq (sIf (tAnd' (mB (mVar 3)) (mB (mBin xNotIn (mBin xIx (mVar 1) (mD (.int 0))) (mDGet (mVar 0) (mD (.str "starts")))))) (sRet (mTup (aCons (mD (.str "start")) (aCons (mD (.int 0)) aNil)))) sNext) (sSeq (sFor (mRange1 (aCons (mBin xSub (mVar 2) (mIf (mB (mVar 3)) (mD (.int 1)) (mD (.int 0)))) aNil)) (gN 4) (sIf (mB (mBin xNotInD (mTup (aCons (mBin xIx (mVar 1) (mVar 4)) (aCons (mBin xIx (mVar 1) (mBin xMod (mBin xAdd (mVar 4) (mD (.int 1))) (mVar 2))) aNil))) (mDGet (mVar 0) (mD (.str "pairs"))))) (sRet (mTup (aCons (mD (.str "pair")) (aCons (mVar 4) aNil)))) sNext)) (sSeq (sIf (tAnd' (mB (mVar 3)) (mB (mBin xNotIn (mBin xIx (mVar 1) (mBin xSub (mVar 2) (mD (.int 1)))) (mDGet (mVar 0) (mD (.str "ends")))))) (sRet (mTup (aCons (mD (.str "end")) (aCons (mBin xSub (mVar 2) (mD (.int 1))) aNil)))) sNext) (sRet (mD .non))))))
abbrev m__law_break : MF := mFc 5 b__law_break
theorem ok__law_break (T : Txt P K mg) : Fnd P w K mg base "_law_break" s__law_break ["sketch", "labelling_here"] 3 m__law_break := by
  obtain ⟨f, fd, F, g, b⟩ := T.f__law_break
  refine fn_fnd F sc__law_break g b fun cdv A outer s H E hr hgd => ?_
  exact (mss_cons (ms_par (i := 2) (j := 3) rfl sc__law_break.nd (ma_cons (me_callB b_len T.n_len boot_len (ma_cons (me_var (i := 1)) ma_nil)) (ma_cons (me_cmp o_notN (me_dget (un1 hr) (me_var (i := 0)) me_str) me_non) ma_nil))) (mss_cons (ms_if (MWJ.t (mw_and (mt_val (me_var (i := 3))) (mw_and1 (mt_cmp o_notIn (me_ix (me_var (i := 1)) me_int) (me_dget (un1 hr) (me_var (i := 0)) me_str))))) (mss_one (ms_ret (me_tup (ma_cons me_str (ma_cons me_int ma_nil))))) mss_nil) (mss_cons (ms_for PassesOwn.leaving rfl (mi_range1 T.n_range (ma_cons (me_bin o_sub (me_var (i := 2)) (me_if (mt_val (me_var (i := 3))) me_int me_int)) ma_nil)) (mg_name (is := [4]) (i := 4) sc__law_break.nd) (mss_one (ms_if (mt_cmp (o_notInD (un65 hr)) (me_tup (ma_cons (me_ix (me_var (i := 1)) (me_var (i := 4))) (ma_cons (me_ix (me_var (i := 1)) (me_bin o_mod (me_bin o_add (me_var (i := 4)) me_int) (me_var (i := 2)))) ma_nil))) (me_dget (un1 hr) (me_var (i := 0)) me_str)) (mss_one (ms_ret (me_tup (ma_cons me_str (ma_cons (me_var (i := 4)) ma_nil))))) mss_nil))) (mss_cons (ms_if (MWJ.t (mw_and (mt_val (me_var (i := 3))) (mw_and1 (mt_cmp o_notIn (me_ix (me_var (i := 1)) (me_bin o_sub (me_var (i := 2)) me_int)) (me_dget (un1 hr) (me_var (i := 0)) me_str))))) (mss_one (ms_ret (me_tup (ma_cons me_str (ma_cons (me_bin o_sub (me_var (i := 2)) me_int) ma_nil))))) mss_nil) (mss_one (ms_ret me_non))))))
def b__law_rows : MS := (sSeq (sSet 2 (mLst (aCons (mTup aNil) aNil))) (sSeq (sFor (mRange1 (aCons (mVar 1) aNil)) (gN 3) (sSeq (sSet 4 (mLst aNil)) (sSeq (sFor (mItems (mVar 2)) (gN 5) (sSet 4 (mBin xAdd (mVar 4) (mLc (mRange1 (aCons (mVar 0) aNil)) (gN 6) mYes (mBin xAdd (mVar 5) (mTup (aCons (mVar 6) aNil))) [6])))) (sSet 2 (mVar 4))))) (sRet (mVar 2))))
abbrev m__law_rows : MF := mFc 7 b__law_rows
theorem ok__law_rows (T : Txt P K mg) : Fnd P w K mg base "_law_rows" s__law_rows ["labels_here", "size"] 3 m__law_rows := by
  obtain ⟨f, fd, F, g, b⟩ := T.f__law_rows
  refine fn_fnd F sc__law_rows g b fun cdv A outer s H E hr hgd => ?_
  exact (mss_cons (ms_set (i := 2) sc__law_rows.nd (me_lst (ma_cons (me_tup ma_nil) ma_nil))) (mss_cons (ms_for PassesOwn.leaving rfl (mi_range1 T.n_range (ma_cons (me_var (i := 1)) ma_nil)) (mg_name (is := [3]) (i := 3) sc__law_rows.nd) (mss_cons (ms_set (i := 4) sc__law_rows.nd (me_lst ma_nil)) (mss_cons (ms_for PassesOwn.leaving rfl (mi_items (me_var (i := 2))) (mg_name (is := [5]) (i := 5) sc__law_rows.nd) (mss_one (ms_set (i := 4) sc__law_rows.nd (me_bin o_add (me_var (i := 4)) (me_lc rfl sc__law_rows.nd (lcj_name (own := [("label", 6)]) (mi_range1 T.n_range (ma_cons (me_var (i := 0)) ma_nil)) (blkOk_by (by rfl)) sc__law_rows.nd (fun _ _ _ _ _ => mts_nil) (fun _ _ _ _ _ => (me_bin o_add (me_var (i := 5)) (me_tup (ma_cons (me_var (i := 6)) ma_nil)))))))))) (mss_one (ms_set (i := 2) sc__law_rows.nd (me_var (i := 4))))))) (mss_one (ms_ret (me_var (i := 2))))))
def b__law_ways : MS := (sSeq (sSet 2 (mDictT (mLc (mRange1 (aCons (mDGet (mVar 0) (mD (.str "labels"))) aNil)) (gN 9) mYes (mTup (aCons (mTup (aCons (mVar 9) (aCons (mVar 9) aNil))) (aCons (mD (.int 1)) aNil))) [9]))) (sSeq (sFor (mRange1 (aCons (mBin xSub (mVar 1) (mD (.int 1))) aNil)) (gN 3) (sSeq (sSet 4 mDNewT) (sSeq (sFor (mKeys (mVar 2)) (gT [(gN 5), (gN 6)]) (sFor (mItems (mDGet (mVar 0) (mD (.str "pairs")))) (gT [(gN 7), (gN 8)]) (sIf (mB (mBin xEq (mVar 7) (mVar 6))) (sDPutW (mVar 4) (mTup (aCons (mVar 5) (aCons (mVar 8) aNil))) (mBin xAdd (mDGet2 (mVar 4) (mTup (aCons (mVar 5) (aCons (mVar 8) aNil))) (mD (.int 0))) (mDGet (mVar 2) (mTup (aCons (mVar 5) (aCons (mVar 6) aNil)))))) sNext))) (sSet 2 (mFz (mVar 4)))))) (sRet (mVar 2))))
abbrev m__law_ways : MF := mFc 10 b__law_ways
theorem ok__law_ways (T : Txt P K mg) : Fnd P w K mg base "_law_ways" s__law_ways ["sketch", "size"] 3 m__law_ways := by
  obtain ⟨f, fd, F, g, b⟩ := T.f__law_ways
  refine fn_fnd F sc__law_ways g b fun cdv A outer s H E hr hgd => ?_
  exact (mss_cons (ms_set (i := 2) sc__law_ways.nd (me_dictT rfl (un4 hr) T.n_dict (me_lc rfl sc__law_ways.nd (lcj_name (own := [("label", 9)]) (mi_range1 T.n_range (ma_cons (me_dget (un1 hr) (me_var (i := 0)) me_str) ma_nil)) (blkOk_by (by rfl)) sc__law_ways.nd (fun _ _ _ _ _ => mts_nil) (fun _ _ _ _ _ => (me_tup (ma_cons (me_tup (ma_cons (me_var (i := 9)) (ma_cons (me_var (i := 9)) ma_nil))) (ma_cons me_int ma_nil)))))))) (mss_cons (ms_for PassesOwn.leaving rfl (mi_range1 T.n_range (ma_cons (me_bin o_sub (me_var (i := 1)) me_int) ma_nil)) (mg_name (is := [3]) (i := 3) sc__law_ways.nd) (mss_cons (ms_set (i := 4) sc__law_ways.nd me_dnewT) (mss_cons (ms_for PassesOwn.leaving rfl (mi_keys (me_var (i := 2))) (mg_tup rfl (mgs_cons (mg_name (is := [5, 6]) (i := 5) sc__law_ways.nd) (mgs_cons (mg_name (is := [5, 6]) (i := 6) sc__law_ways.nd) mgs_nil))) (mss_one (ms_for PassesOwn.leaving rfl (mi_items (me_dget (un1 hr) (me_var (i := 0)) me_str)) (mg_tup rfl (mgs_cons (mg_name (is := [7, 8]) (i := 7) sc__law_ways.nd) (mgs_cons (mg_name (is := [7, 8]) (i := 8) sc__law_ways.nd) mgs_nil))) (mss_one (ms_if (mt_cmp (o_eq hr.units) (me_var (i := 7)) (me_var (i := 6))) (mss_one (ms_dputW (un1 hr) (me_var (i := 4)) (me_tup (ma_cons (me_var (i := 5)) (ma_cons (me_var (i := 8)) ma_nil))) (me_bin o_add (me_dget2 (un1 hr) (me_var (i := 4)) (me_tup (ma_cons (me_var (i := 5)) (ma_cons (me_var (i := 8)) ma_nil))) me_int) (me_dget (un1 hr) (me_var (i := 2)) (me_tup (ma_cons (me_var (i := 5)) (ma_cons (me_var (i := 6)) ma_nil))))))) mss_nil))))) (mss_one (ms_set (i := 2) sc__law_ways.nd (me_fz (me_var (i := 4)))))))) (mss_one (ms_ret (me_var (i := 2))))))
def b__law_sum : MS := (sSeq (sSet 2 (mCall m__law_ways (aCons (mVar 0) (aCons (mVar 1) aNil)))) (sSeq (sIf (mB (mBin xIsN (mDGet (mVar 0) (mD (.str "starts"))) (mD .non))) (sRet (mCB cNums fSum (aCons (mLc (mKeys (mVar 2)) (gN 3) (mB (mBin xInD (mTup (aCons (mBin xIx (mVar 3) (mD (.int 1))) (aCons (mBin xIx (mVar 3) (mD (.int 0))) aNil))) (mDGet (mVar 0) (mD (.str "pairs"))))) (mDGet (mVar 2) (mVar 3)) [3]) aNil))) sNext) (sRet (mCB cNums fSum (aCons (mLc (mKeys (mVar 2)) (gN 3) (tAnd' (mB (mBin xIn (mBin xIx (mVar 3) (mD (.int 0))) (mDGet (mVar 0) (mD (.str "starts"))))) (mB (mBin xIn (mBin xIx (mVar 3) (mD (.int 1))) (mDGet (mVar 0) (mD (.str "ends")))))) (mDGet (mVar 2) (mVar 3)) [3]) aNil)))))
abbrev m__law_sum : MF := mFc 4 b__law_sum
theorem ok__law_sum (T : Txt P K mg) : Fnd P w K mg base "_law_sum" s__law_sum ["sketch", "size"] 4 m__law_sum := by
  obtain ⟨f, fd, F, g, b⟩ := T.f__law_sum
  refine fn_fnd F sc__law_sum g b fun cdv A outer s H E hr hgd => ?_
  exact (mss_cons (ms_set (i := 2) sc__law_sum.nd (me_callF (ok__law_ways T) (takes_of rfl rfl rfl rfl) hgd (hr.mono (by decide)) (ma_cons (me_var (i := 0)) (ma_cons (me_var (i := 1)) ma_nil)))) (mss_cons (ms_if (mt_cmp o_isN (me_dget (un1 hr) (me_var (i := 0)) me_str) me_non) (mss_one (ms_ret (me_callB (b_sum rfl) T.n_sum boot_sum (ma_cons (me_lc rfl sc__law_sum.nd (lcj_name (own := [("item", 3)]) (mi_keys (me_var (i := 2))) (blkOk_by (by rfl)) sc__law_sum.nd (fun _ _ _ _ _ => (mts_one (mt_cmp (o_inD (un65 hr)) (me_tup (ma_cons (me_ix (me_var (i := 3)) me_int) (ma_cons (me_ix (me_var (i := 3)) me_int) ma_nil))) (me_dget (un1 hr) (me_var (i := 0)) me_str)))) (fun _ _ _ _ _ => (me_dget (un1 hr) (me_var (i := 2)) (me_var (i := 3)))))) ma_nil)))) mss_nil) (mss_one (ms_ret (me_callB (b_sum rfl) T.n_sum boot_sum (ma_cons (me_lc rfl sc__law_sum.nd (lcj_name (own := [("item", 3)]) (mi_keys (me_var (i := 2))) (blkOk_by (by rfl)) sc__law_sum.nd (fun _ _ _ _ _ => (mts_one (MWJ.t (mw_and (mt_cmp o_in (me_ix (me_var (i := 3)) me_int) (me_dget (un1 hr) (me_var (i := 0)) me_str)) (mw_and1 (mt_cmp o_in (me_ix (me_var (i := 3)) me_int) (me_dget (un1 hr) (me_var (i := 0)) me_str))))))) (fun _ _ _ _ _ => (me_dget (un1 hr) (me_var (i := 2)) (me_var (i := 3)))))) ma_nil))))))
theorem kw_how_many_size_problem (kV doc pm : Value) (an : Option Addr) (cdv ct : Value) : KBinds K (PySem.W.fnOf "how_many" "how_many" (defArgs s_how_many) (defBody s_how_many) (defScope s_how_many) .none kV doc pm an cdv ct) ["problem", "size"] ["size", "problem"] (permG [1, 0]) (permG [1, 0]) :=
  ⟨fun s us ws _ hl => by
    match us, ws, hl with
    | _ :: _, _, hl => exact absurd hl (by simp [permG])
    | [], [], hl => exact absurd hl (by simp [permG])
    | [], [_], hl => exact absurd hl (by simp [permG])
    | [], a :: b :: r, _ => exact BindsTo.of_eq rfl, fun r rz => permG_rel [1, 0] r rz⟩
theorem kw_some_labelling_size_problem (kV doc pm : Value) (an : Option Addr) (cdv ct : Value) : KBinds K (PySem.W.fnOf "some_labelling" "some_labelling" (defArgs s_some_labelling) (defBody s_some_labelling) (defScope s_some_labelling) .none kV doc pm an cdv ct) ["problem", "size"] ["size", "problem"] (permG [1, 0]) (permG [1, 0]) :=
  ⟨fun s us ws _ hl => by
    match us, ws, hl with
    | _ :: _, _, hl => exact absurd hl (by simp [permG])
    | [], [], hl => exact absurd hl (by simp [permG])
    | [], [_], hl => exact absurd hl (by simp [permG])
    | [], a :: b :: r, _ => exact BindsTo.of_eq rfl, fun r rz => permG_rel [1, 0] r rz⟩
def qLam : Str := (("law" : Str) ++ (".<locals>." : Str)) ++ ("<lambda>" : Str)
def mbs_law : List MX := [(mCall m_some_labelling (aCons (mVar 4) (aCons (mVar 11) aNil))), (mCall m_how_many (aCons (mVar 4) (aCons (mVar 11) aNil))), (mCall m_some_labelling (aCons (mVar 14) (aCons (mD .non) aNil))), (mCall m_how_many (aCons (mVar 14) (aCons (mD .non) aNil)))]
def b_law (lm : Nat → Addr → Addr → HO) : MS := (sSeq (sFor (mRange1 (aCons (mBin xAdd (mD (.int 1)) (mCB (c2 cII) fMin (aCons (mCB cSeq fLen (aCons (mVar 0) aNil)) (aCons (mD (.int 3)) aNil)))) aNil)) (gN 2) (sSeq (sSet 3 (mCall m__law_sketch (aCons (mVar 1) (aCons (mD (.int 4)) aNil)))) (sSeq (sSet 4 (mCall m__law_made (aCons (mVar 3) aNil))) (sSeq (sFor (mItems (mLst (aCons (mD (.int 1)) (aCons (mD (.int 2)) (aCons (mD (.int 3)) (aCons (mBin xAdd (mD (.int 4)) (mCall m__law_take (aCons (mVar 1) (aCons (mD (.int 2)) aNil)))) aNil)))))) (gN 5) (sSeq (sSet 6 (mLc (mItems (mCall m__law_rows (aCons (mDGet (mVar 3) (mD (.str "labels"))) (aCons (mVar 5) aNil)))) (gN 15) (mB (mBin xIsN (mCall m__law_break (aCons (mVar 3) (aCons (mVar 15) aNil))) (mD .non))) (mVar 15) [15])) (sSeq (sIf (tOr' (mB (mBin xNe (mCB cReprI fRepr (aCons (mCall m_how_many (aCons (mVar 4) (aCons (mVar 5) aNil))) aNil)) (mCB cReprI fRepr (aCons (mCB cSeq fLen (aCons (mVar 6) aNil)) aNil)))) (mB (mBin xNe (mCallK [1, 0] (mArgs 2 m_how_many) (aCons (mVar 5) (aCons (mVar 4) aNil))) (mCB cSeq fLen (aCons (mVar 6) aNil))))) (sRet (mD (.bl false))) sNext) (sSeq (sSet 7 (mIf (mB (mBin xNe (mVar 6) (mLst aNil))) (mBin xIx (mVar 6) (mD (.int 0))) (mD .non))) (sIf (tOr' (mB (mBin xNe (mCB cReprI fRepr (aCons (mCall m_some_labelling (aCons (mVar 4) (aCons (mVar 5) aNil))) aNil)) (mCB cReprI fRepr (aCons (mVar 7) aNil)))) (mB (mBin xNe (mCallK [1, 0] (mArgs 2 m_some_labelling) (aCons (mVar 5) (aCons (mVar 4) aNil))) (mVar 7)))) (sRet (mD (.bl false))) sNext))))) (sSeq (sSet 8 (mBin xAdd (mD (.int 7)) (mCall m__law_take (aCons (mVar 1) (aCons (mD (.int 40)) aNil))))) (sSeq (sSet 9 (mCall m__law_sum (aCons (mVar 3) (aCons (mVar 8) aNil)))) (sSeq (sSet 10 (mCall m_some_labelling (aCons (mVar 4) (aCons (mVar 8) aNil)))) (sSeq (sIf (tOr' (mB (mBin xNe (mCB cReprI fRepr (aCons (mCall m_how_many (aCons (mVar 4) (aCons (mVar 8) aNil))) aNil)) (mCB cReprI fRepr (aCons (mVar 9) aNil)))) (mB (mBin xNe (mBin xIsN (mVar 10) (mD .non)) (mBin xEq (mVar 9) (mD (.int 0)))))) (sRet (mD (.bl false))) sNext) (sSeq (sIf (tAnd' (mB (mBin xNotN (mVar 10) (mD .non))) (tOr' (mB (mBin xNe (mCB cSeq fLen (aCons (mVar 10) aNil)) (mVar 8))) (mB (mBin xNotN (mCall m__law_break (aCons (mVar 3) (aCons (mVar 10) aNil))) (mD .non))))) (sRet (mD (.bl false))) sNext) (sSeq (sFor (mItems (mLst (aCons (mD .non) (aCons (mD (.int 0)) (aCons (mD (.int 401)) (aCons (mD (.bl true)) (aCons (mD (.str "3")) (aCons (mTup (aCons (mD (.int 3)) aNil)) aNil)))))))) (gN 11) (sFor (mItems (mLst (aCons (mLam 0 lm qLam) (aCons (mLam 1 lm qLam) aNil)))) (gN 12) (sSeq (sSet 13 (mCaught errsAll lm qLam mbs_law (mVar 12))) (sIf (tOr' (tNot' (mB (mIsC errsAll "RoundError" "BadNumber" (mVar 13)))) (mB (mBin xNe (mFldE errs_part "part" (mVar 13)) (mD (.str "size"))))) (sRet (mD (.bl false))) sNext)))) (sSeq (sSet 14 (mCall m__law_pick (aCons (mVar 1) (aCons (mLst (aCons (mD .non) (aCons (mD (.int 5)) (aCons (mVar 3) aNil)))) aNil)))) (sFor (mItems (mLst (aCons (mLam 2 lm qLam) (aCons (mLam 3 lm qLam) aNil)))) (gN 12) (sSeq (sSet 13 (mCaught errsAll lm qLam mbs_law (mVar 12))) (sIf (tOr' (tNot' (mB (mIsC errsAll "RoundError" "BadProblem" (mVar 13)))) (mB (mBin xNotN (mFldE errs_part "part" (mVar 13)) (mD .non)))) (sRet (mD (.bl false))) sNext)))))))))))))) (sRet (mD (.bl true))))
def lmOf (X : Cx) (n : Nat) : Addr → Addr → HO := match n with
  | 0 => lamOf X (defBody s_law) [1, 8, 0] [0]
  | 1 => lamOf X (defBody s_law) [1, 8, 0] [1]
  | 2 => lamOf X (defBody s_law) [1, 10] [0]
  | 3 => lamOf X (defBody s_law) [1, 10] [1]
  | _ => fun _ _ => .ext fun _ => False
theorem lam_ok_law (T : Txt P K mg) {cdv : Value} {f : Addr} {A : Around} {outer : List PySem.Env} {s : Shared} {H : Hp} {E : XK} : ∀ n mb, mbs_law[n]? = some mb → LamJ (cxD P w K mg base n_law "law" s_law f cdv A outer s H E) 9 (lmOf (cxD P w K mg base n_law "law" s_law f cdv A outer s H E) n) mb := by
  intro n mb h
  match n, h with
  | 0, h =>
    cases h
    exact ⟨_, _, _, rfl, LamX.lamS_by (by rfl), fun _ _ _ _ _ => rfl, fun A' outer' s' H' E' f' c' hr hgd tk => (me_callF (ok_some_labelling T) tk hgd (hr.mono (by decide)) (ma_cons (me_var (i := 4)) (ma_cons (me_var (i := 11)) ma_nil)))⟩
  | 1, h =>
    cases h
    exact ⟨_, _, _, rfl, LamX.lamS_by (by rfl), fun _ _ _ _ _ => rfl, fun A' outer' s' H' E' f' c' hr hgd tk => (me_callF (ok_how_many T) tk hgd (hr.mono (by decide)) (ma_cons (me_var (i := 4)) (ma_cons (me_var (i := 11)) ma_nil)))⟩
  | 2, h =>
    cases h
    exact ⟨_, _, _, rfl, LamX.lamS_by (by rfl), fun _ _ _ _ _ => rfl, fun A' outer' s' H' E' f' c' hr hgd tk => (me_callF (ok_some_labelling T) tk hgd (hr.mono (by decide)) (ma_cons (me_var (i := 14)) (ma_cons me_non ma_nil)))⟩
  | 3, h =>
    cases h
    exact ⟨_, _, _, rfl, LamX.lamS_by (by rfl), fun _ _ _ _ _ => rfl, fun A' outer' s' H' E' f' c' hr hgd tk => (me_callF (ok_how_many T) tk hgd (hr.mono (by decide)) (ma_cons (me_var (i := 14)) (ma_cons me_non ma_nil)))⟩
  | n + 4, h => exact absurd h (by simp [mbs_law])
theorem sc_caught : FnScope caughtN ["work"] (defScope s__law_caught) := ⟨rfl, rfl, rfl, by decide +kernel, rfl, by decide +kernel, by decide +kernel⟩
end
end RW
namespace RW
open PySem PySem.Spec PyProof.Rows L2 SrtO
variable [Tbl]
section
variable {Q E : D → Prop}
theorem p_is_number {d : D} (h : (tyNm d).isSome = true) (q : Q (.bl (isNum d))) : m_is_number [d] Q E := by
  refine mFc.mk ⟨_, rfl, d, rfl, h, _, rfl, ?_⟩
  unfold isNum at q
  by_cases hi : isiB "int" d = true
  · rw [if_pos hi]
    rw [hi, Bool.true_and] at q
    exact ⟨_, rfl, d, rfl, h, _, rfl, _, rfl, q⟩
  · rw [if_neg hi]
    rw [Bool.eq_false_iff.mpr hi, Bool.false_and] at q
    exact ⟨_, rfl, q⟩
end
section
variable {Q E : D → Prop}
theorem p_is_between {d : D} {lo hi : Int} (h : (tyNm d).isSome = true) (q : Q (.bl (btw d lo hi))) : m_is_between [d, .int lo, .int hi] Q E := by
  refine mFc.mk ⟨_, rfl, [d], rfl, p_is_number h ⟨_, rfl, ?_⟩⟩
  by_cases hn : isNum d = true
  · rw [if_pos hn]
    obtain ⟨i, rfl⟩ := isNum_inv hn
    refine ⟨_, rfl, _, rfl, .int lo, .int i, rfl, rfl, trivial, _, rfl, ?_⟩
    by_cases h1 : decide (lo ≤ i) = true
    · rw [if_pos h1]
      refine ⟨_, rfl, .int i, .int hi, rfl, rfl, trivial, _, rfl, ?_⟩
      simp only [btw] at q
      rw [h1, Bool.true_and] at q
      exact q
    · rw [if_neg h1]
      simp only [btw] at q
      rw [Bool.eq_false_iff.mpr h1, Bool.false_and] at q
      exact ⟨_, rfl, q⟩
  · rw [if_neg hn]
    rw [btw_not hn] at q
    exact ⟨_, rfl, q⟩
end
section
variable {Q E : D → Prop}
theorem p_need_between {d part : D} {lo hi : Int} (h : (tyNm d).isSome = true) (q : btw d lo hi = true → Q .non) (e : btw d lo hi = false → E (.exc "BadNumber" [("part", part)])) : m_need_between [d, .int lo, .int hi, part] Q E := by
  refine mFc.mk ⟨_, rfl, _, rfl, _, rfl, _, rfl, p_is_between h ⟨_, rfl, ?_⟩⟩
  cases hb : btw d lo hi with
  | true => exact q hb
  | false => exact ⟨_, rfl, part, rfl, e hb⟩
end
section
variable {Q E : D → Prop}
theorem p_pick {xs : List D} (h0 : 0 < xs.length) (h1 : xs.length < 1073741824) (q : ∀ x ∈ xs, Q x) : m__law_pick [.drw, .lst xs] Q E := by
  refine mFc.mk ⟨_, rfl, _, rfl, _, rfl, [.lst xs], rfl, rfl, [.drw, .int xs.length], rfl, xs.length, rfl, by omega, by omega, fun k k0 k1 => ?_⟩
  refine ⟨.lst xs, .int k, rfl, rfl, ⟨_, _, rfl, rfl, atI_pos k0 k1⟩, _, rfl, ?_⟩
  show Q ((atI xs k).getD .non)
  rw [atI_pos k0 k1]
  refine q _ ?_
  rw [List.getD_eq_getElem?_getD, List.getElem?_eq_getElem (by omega)]
  exact List.getElem_mem _
end
section
variable {Q E : D → Prop}
end
section
variable {Q E : D → Prop}
end
section
variable {Q E : D → Prop}
/-- things in a drawn order -/
theorem p_shuf {α : Type} (f : α → D) (g : α → PyData) (h : ∀ l : List α, toPy (.lst (l.map f)) = some (.list (l.map g))) (s : ∀ l : List α, SeqAt.shaped (.list (l.map g)) = true) {ns : List α} (hl : ns.length ≤ 1000) (q : ∀ ms : List α, ms.Perm ns → Q (.lst (ms.map f))) : m__law_shuffled [.drw, .lst (ns.map f)] Q E := by
  refine mFc.mk ⟨_, rfl, .lst (ns.map f), rfl, rfl, by unfold line; exact Nat.zero_le _, _, _, rfl, ?_⟩
  refine ⟨fun m env S => ∃ left found : List α, (found ++ left).Perm ns ∧ m = left.length ∧ env = [some (.d .drw), some (.d (.lst (ns.map f))), some (.ref 0), some (.ref 1)] ∧ S = [.lst ((left.map f).map W.d), .lst ((found.map f).map W.d)],
    ⟨ns.length, ns, [], List.Perm.refl _, rfl, rfl, rfl⟩, ?_⟩
  rintro m env S ⟨left, found, hp, rfl, rfl, rfl⟩
  have hlen := hp.length_eq
  rw [List.length_append] at hlen
  refine ⟨_, rfl, [], rfl, Nat.zero_le _, .lst (left.map f), .lst [], rd_at rfl, rfl, cEq_nil f g h s left, _, rfl, ?_⟩
  cases left with
  | nil =>
    refine ite_f (by rw [eq_nil f g h]; rfl) ?_
    rw [List.append_nil] at hp
    refine ⟨_, rfl, .lst (found.map f), ?_, q found hp⟩
    show (mapO (dp 3 _) ((found.map f).map W.d)).map D.lst = _
    rw [mapO_dp]
    rfl
  | cons a l =>
    generalize hL : a :: l = left at *
    have lp : 0 < left.length := by rw [← hL]; simp
    refine ite_t (by rw [eq_nil f g h, ← hL]; rfl) ?_
    refine ⟨_, rfl, 1, _, rfl, rfl, _, rfl, 0, _, rfl, rfl, _, rfl, _, rfl, [.lst (left.map f)], mapO_one (rd_at rfl), rfl, [.drw, .int (left.map f).length], rfl, (left.map f).length, rfl, by rw [List.length_map]; omega, by rw [List.length_map]; omega, fun k k0 k1 => ?_⟩
    rw [List.length_map] at k1
    have kl : k.toNat < left.length := by omega
    refine ⟨k, _, k.toNat, .d (f left[k.toNat]), rfl, rfl, ⟨by omega, by omega⟩, seqIx k0 (by rw [List.length_map, List.length_map]; exact k1), ?_, ?_⟩
    · rw [List.getElem?_map, List.getElem?_map, List.getElem?_eq_getElem kl]
      rfl
    · refine ⟨_, _, rfl, rfl, by rw [List.length_map, List.length_map]; unfold line; omega, ?_⟩
      refine ⟨(left.eraseIdx k.toNat).length, by rw [List.length_eraseIdx_of_lt kl]; omega, left.eraseIdx k.toNat, found ++ [left[k.toNat]], ?_, rfl, rfl, ?_⟩
      · rw [List.append_assoc]
        exact (List.Perm.append_left found (perm_erase left k.toNat kl)).trans hp
      · rw [← erase_map, ← erase_map, List.map_append, List.map_append]
        rfl
/-- some labels -/
theorem p_some {n : Nat} (h1 : n ≤ 100) (q : ∀ ms : List Int, ms.Nodup → (∀ x ∈ ms, 0 ≤ x ∧ x < n) → Q (.lst (ms.map D.int))) : m__law_some_labels [.drw, .int n] Q E := by
  refine mFc.mk ⟨_, rfl, _, rfl, n, rfl, by unfold L2.RgOk; omega, ?_⟩
  rw [rgD_rg0]
  refine ⟨_, rfl, p_shuf D.int PyData.int toPy_lstI shI (by rw [rg0_len]; omega) fun ms pm => ?_⟩
  refine ⟨_, rfl, _, rfl, .int n, .int 1, rfl, rfl, trivial, [.drw, .int (n + 1)], rfl, n + 1, rfl, by omega, by omega, fun k k0 k1 => ⟨k, rfl, .lst (ms.map D.int), rfl, rfl, ?_⟩⟩
  obtain ⟨ks, e, sb⟩ := cut_sub ms none (some k)
  refine ⟨_, rfl, ?_⟩
  show Q (.lst (cutD (ms.map D.int) none (some k)))
  rw [e]
  exact q ks (List.Nodup.sublist sb (pm.nodup_iff.mpr (rg0_nodup n))) fun x hx => rg0_mem.mp (pm.mem_iff.mp (sb.subset hx))
theorem p_pairs {n : Nat} (h0 : 1 ≤ n) (h1 : n ≤ 12) (q : ∀ P : List (Int × Int), GoodP n P → Q (.lst (P.map pairD))) : m__law_pairs [.drw, .int n] Q E := by
  refine mFc.mk ⟨_, rfl, [.drw, .int 4], rfl, 4, rfl, by decide, by decide, fun w w0 w1 => ⟨Nat.zero_le _, rfl, ?_⟩⟩
  have hw : ∃ z : Int, atI [D.int 2, .int 3, .int 5, .int 8] w = some (.int z) ∧ 0 < z ∧ z ≤ 8 := by
    have : w = 0 ∨ w = 1 ∨ w = 2 ∨ w = 3 := by omega
    rcases this with rfl | rfl | rfl | rfl
    · exact ⟨2, rfl, by decide, by decide⟩
    · exact ⟨3, rfl, by decide, by decide⟩
    · exact ⟨5, rfl, by decide, by decide⟩
    · exact ⟨8, rfl, by decide, by decide⟩
  obtain ⟨z, hz, z0, z8⟩ := hw
  have ez : fIx (.lst [.int 2, .int 3, .int 5, .int 8]) (.int w) = .int z := by
    show (atI [D.int 2, .int 3, .int 5, .int 8] w).getD D.non = _
    rw [hz]
    rfl
  refine ⟨_, rfl, n, rfl, ⟨by omega, by omega⟩, ?_⟩
  rw [Int.toNat_natCast, plc_eq]
  have hpl : plcI n = rg0 n := rfl
  rw [hpl]
  refine loop_inv (fun rest env S => ∃ (done left : List Int) (P : List (Int × Int)) (x4 x5 : Option W), done ++ left = rg0 n ∧ rest = left.map D.int ∧ GoodP n P ∧ (∀ p ∈ P, p.1 ∈ done) ∧ env = [some (.d .drw), some (.d (.int n)), some (.d (.int w)), some (.ref 0), x4, x5] ∧ S = [.lst ((P.map pairD).map W.d)]) (fun _ => trivial) ?_ ?_ _ _ _
    ⟨[], _, [], none, none, rfl, rfl, ⟨List.nodup_nil, fun _ z => nomatch z⟩, (fun _ z => nomatch z), rfl, rfl⟩
  · rintro x rest env S ⟨done, left, P, x4, x5, he, hr, hP, hf, rfl, rfl⟩ N2 hN
    cases left with
    | nil => cases hr
    | cons one left =>
      rw [List.map_cons] at hr
      injection hr with hx hr
      subst hx
      obtain ⟨o1, o2, o3⟩ := split_rg0 he
      refine ⟨_, rfl, _, rfl, n, rfl, ⟨by omega, by omega⟩, ?_⟩
      rw [Int.toNat_natCast, plc_eq, hpl]
      refine loop_inv (fun rest2 env S => ∃ (d2 l2 : List Int) (P : List (Int × Int)) (x5 : Option W), d2 ++ l2 = rg0 n ∧ rest2 = l2.map D.int ∧ GoodP n P ∧ (∀ p ∈ P, p.1 ∈ done ∨ (p.1 = one ∧ p.2 ∈ d2)) ∧ env = [some (.d .drw), some (.d (.int n)), some (.d (.int w)), some (.ref 0), some (.d (.int one)), x5] ∧ S = [.lst ((P.map pairD).map W.d)]) (fun _ => trivial) ?_ ?_ _ _ _
        ⟨[], _, P, x5, rfl, rfl, hP, fun p hp => .inl (hf p hp), rfl, rfl⟩
      · rintro y rest2 env S ⟨d2, l2, P, x5, he2, hr2, hP, hf, rfl, rfl⟩ N3 hN3
        cases l2 with
        | nil => cases hr2
        | cons other l2 =>
          rw [List.map_cons] at hr2
          injection hr2 with hx2 hr2
          subst hx2
          obtain ⟨p1, p2, p3⟩ := split_rg0 he2
          refine ⟨_, rfl, _, rfl, [.int 2, .int 3, .int 5, .int 8], rfl, (by show (4 : Nat) ≤ line; decide), _, rfl, .lst [.int 2, .int 3, .int 5, .int 8], .int w, rfl, rfl, ⟨_, _, rfl, rfl, hz⟩, [.drw, .int z], by rw [ez]; rfl, z, rfl, z0, by omega, fun k k0 k1 => ⟨.int k, .int 0, rfl, rfl, cEq_int _ _, _, rfl, ?_⟩⟩
          have pl := hP.len
          have nn : n * n ≤ 144 := Nat.mul_le_mul h1 h1
          cases hk : eqD (.int k) (.int 0) with
          | true =>
            refine ite_t rfl ⟨_, rfl, 0, _, rfl, rfl, _, rfl, _, rfl, [.int one, .int other], rfl, (by show (2 : Nat) ≤ line; decide), _, _, rfl, rfl, by rw [List.length_map, List.length_map]; unfold line; omega, ?_⟩
            refine hN3 _ _ ⟨d2 ++ [other], l2, P ++ [(one, other)], _, p3, hr2, ⟨?_, fun p hp => ?_⟩, fun p hp => ?_, rfl, ?_⟩
            · refine List.nodup_append.mpr ⟨hP.1, by simp, fun a ha b hb e => ?_⟩
              rw [List.mem_singleton] at hb
              subst hb
              subst e
              rcases hf _ ha with q1 | ⟨_, q1⟩
              · exact o1 q1
              · exact p1 q1
            · rcases List.mem_append.mp hp with q1 | q1
              · exact hP.2 p q1
              · rw [List.mem_singleton.mp q1]
                exact ⟨o2, p2⟩
            · rcases List.mem_append.mp hp with q1 | q1
              · exact (hf p q1).imp (fun z => z) fun z => ⟨z.1, List.mem_append.mpr (.inl z.2)⟩
              · rw [List.mem_singleton.mp q1]
                exact .inr ⟨rfl, by simp⟩
            · rw [List.map_append, List.map_append]
              rfl
          | false =>
            refine ite_f rfl (hN3 _ _ ⟨d2 ++ [other], l2, P, _, p3, hr2, hP, fun p hp => ?_, rfl, rfl⟩)
            exact (hf p hp).imp (fun z => z) fun z => ⟨z.1, List.mem_append.mpr (.inl z.2)⟩
      · rintro env S ⟨d2, l2, P, x5, he2, hr2, hP, hf, rfl, rfl⟩
        refine hN _ _ ⟨done ++ [one], left, P, _, _, o3, hr, hP, fun p hp => ?_, rfl, rfl⟩
        rcases hf p hp with q1 | q1
        · exact List.mem_append.mpr (.inl q1)
        · rw [q1.1]
          simp
  · rintro env S ⟨done, left, P, x4, x5, he, hr, hP, hf, rfl, rfl⟩
    have pl := hP.len
    have nn : n * n ≤ 144 := Nat.mul_le_mul h1 h1
    refine ⟨_, rfl, .int w, .int 1, rfl, rfl, trivial, _, rfl, ?_⟩
    cases hg : decide ((1 : Int) < w) with
    | false =>
      refine ite_f hg ⟨_, rfl, _, rfl, .lst ((P.map pairD).map W.d), .lst (P.map pairD), rfl, ?_, _, rfl, ?_⟩
      · show (datas ((P.map pairD).map W.d)).map D.lst = _
        rw [datas_map]
        rfl
      · exact p_shuf pairD pyP toPy_lstP shP (by omega) fun ms pm => ⟨_, rfl, q ms ⟨pm.nodup_iff.mpr hP.1, fun p hp => hP.2 p (pm.mem_iff.mp hp)⟩⟩
    | true =>
      refine ite_t hg ⟨_, rfl, _, rfl, n, rfl, ⟨by omega, by omega⟩, ?_⟩
      rw [Int.toNat_natCast, plc_eq, hpl]
      let nx : Int → Int × Int := fun one => (one, (one + 1) % (n : Int))
      refine lc_ints trivial (fun one => !decide (nx one ∈ P)) (fun one => pairD (nx one)) (rg0 n) (by rw [rg0_len]; unfold line; omega) (fun one ho => ⟨_, rfl, fun Q' q' => ?_, fun _ Q' q' => ?_⟩) ?_
      · refine ⟨_, rfl, _, rfl, .int one, .int 1, rfl, rfl, trivial, _, rfl, .int (one + 1), .int n, rfl, rfl, (by show (0 : Int) < n; omega), [.int one, .int ((one + 1) % n)], rfl, (by show (2 : Nat) ≤ line; decide), _, rfl, pairD (nx one), .lst (P.map pairD), rfl, rd_lst _, cIn_pairs _ _, _, rfl, ?_⟩
        rw [in_pairs]
        exact q'
      · exact ⟨_, rfl, _, rfl, .int one, .int 1, rfl, rfl, trivial, _, rfl, .int (one + 1), .int n, rfl, rfl, (by show (0 : Int) < n; omega), [.int one, .int ((one + 1) % n)], rfl, (by show (2 : Nat) ≤ line; decide), q'⟩
      · let P2 := ((rg0 n).filter fun one => !decide (nx one ∈ P)).map nx
        have e2 : ((rg0 n).filter fun one => !decide (nx one ∈ P)).map (fun one => pairD (nx one)) = P2.map pairD := by
          show _ = (((rg0 n).filter fun one => !decide (nx one ∈ P)).map nx).map pairD
          rw [List.map_map]
          rfl
        rw [e2]
        have hP2 : GoodP n (P ++ P2) := by
          refine ⟨List.nodup_append.mpr ⟨hP.1, ?_, fun a ha b hb e => ?_⟩, fun p hp => ?_⟩
          · show (((rg0 n).filter fun one => !decide (nx one ∈ P)).map nx).Nodup
            rw [List.nodup_iff_pairwise_ne, List.pairwise_map]
            exact ((rg0_nodup n).filter _).imp fun h e => h (congrArg Prod.fst e)
          · obtain ⟨one, h1', rfl⟩ := List.mem_map.mp hb
            have := (List.mem_filter.mp h1').2
            simp only [Bool.not_eq_true', decide_eq_false_iff_not] at this
            exact this (e ▸ ha)
          · rcases List.mem_append.mp hp with q1 | q1
            · exact hP.2 p q1
            · obtain ⟨one, h1', rfl⟩ := List.mem_map.mp q1
              have := rg0_mem.mp (List.mem_filter.mp h1').1
              have b0 := Int.emod_nonneg (one + 1) (show (n : Int) ≠ 0 by omega)
              have b1 := Int.emod_lt_of_pos (one + 1) (show (0 : Int) < n by omega)
              exact ⟨this, b0, b1⟩
        have pl2 := hP2.len
        refine ⟨.lst (P.map pairD), .lst (P2.map pairD), rd_lst _, rfl, ?_, ?_⟩
        · show (P.map pairD).length + (P2.map pairD).length ≤ line
          rw [List.length_append] at pl2
          rw [List.length_map, List.length_map]
          unfold line
          omega
        · have e3 : plusD (.lst (P.map pairD)) (.lst (P2.map pairD)) = .lst ((P ++ P2).map pairD) := by
            rw [List.map_append]
            rfl
          rw [e3]
          exact ⟨_, rfl, _, rfl, _, rfl, p_shuf pairD pyP toPy_lstP shP (by omega) fun ms pm => ⟨_, rfl, q ms ⟨pm.nodup_iff.mpr hP2.1, fun p hp => hP2.2 p (pm.mem_iff.mp hp)⟩⟩⟩
end

section
variable {Q E : D → Prop}
theorem p_sketch {most : Int} (h1 : 1 ≤ most) (h2 : most ≤ 12) (q : ∀ (n : Nat) P st en, 1 ≤ n → (n : Int) ≤ most → GoodP n P → Ends2 n st en → Q (skD n P st en)) : m__law_sketch [.drw, .int most] Q E := by
  refine mFc.mk ⟨_, rfl, _, rfl, [.drw, .int most], rfl, most, rfl, by omega, by omega, fun k k0 k1 => ⟨.int 1, .int k, rfl, rfl, trivial, ?_⟩⟩
  have e1 : plusD (.int 1) (.int k) = .int (1 + k) := rfl
  rw [e1]
  obtain ⟨n, hn⟩ : ∃ n : Nat, 1 + k = n := ⟨(1 + k).toNat, by omega⟩
  rw [hn]
  have n1 : 1 ≤ n := by omega
  have n2 : n ≤ 12 := by omega
  refine ⟨_, rfl, _, rfl, _, rfl, _, rfl, p_pairs n1 n2 fun P GP => ?_⟩
  refine ⟨_, rfl, [.drw, .int 2], rfl, 2, rfl, by decide, by decide, fun c c0 c1 => ⟨.int c, .int 0, rfl, rfl, cEq_int _ _, _, rfl, ?_⟩⟩
  cases hc : eqD (.int c) (.int 0) with
  | false =>
    refine ite_f rfl ⟨_, rfl, _, skD n P .non .non, rfl, rfl, _, rfl, q n P .non .non n1 (by omega) GP (.inl ⟨rfl, rfl⟩)⟩
  | true =>
    refine ite_t rfl ⟨_, rfl, _, rfl, _, rfl, p_some (by omega) fun s sn sr => ⟨_, rfl, _, rfl, _, rfl, p_some (by omega) fun e en er => ?_⟩⟩
    refine ⟨_, _, rfl, 0, _, rfl, rfl, (by show (4 : Nat) < 1000; decide), 0, _, rfl, rfl, (by show (4 : Nat) < 1000; decide), ?_⟩
    refine ⟨_, rfl, _, skD n P (.lst (s.map D.int)) (.lst (e.map D.int)), rfl, rfl, _, rfl, q n P _ _ n1 (by omega) GP (.inr ⟨s, e, rfl, rfl, sn, en, sr, er⟩)⟩
end

section
variable {Q E : D → Prop}
theorem p_is_list {d : D} (h : (tyNm d).isSome = true) (q : Q (.bl (isSeq d))) : m_is_list [d] Q E := by
  refine mFc.mk ⟨_, rfl, d, rfl, h, _, rfl, ?_⟩
  rw [isi_seq]
  exact q
theorem p_is_labels {n : Int} {d : D} (h : okSeq d) (q : Q (.bl (labB n d))) : m_is_labels [.int n, d] Q E := by
  obtain ⟨t, ts, tl⟩ := h
  refine mFc.mk ⟨_, rfl, _, rfl, p_is_list t ⟨_, rfl, ?_⟩⟩
  cases hs : isSeq d with
  | false =>
    refine ite_t rfl ⟨_, rfl, ?_⟩
    have e : labB n d = false := by unfold labB; rw [hs]; rfl
    rw [e] at q
    exact q
  | true =>
    refine ite_f rfl ⟨_, rfl, ?_⟩
    cases d with
    | lst xs =>
      refine lc_plain trivial (fun x => .bl (btw x 0 (n - 1))) xs (by unfold line; have : xs.length ≤ 4000 := tl; omega) (fun x hx => ⟨_, rfl, fun Q' q' => ⟨_, rfl, _, rfl, .int n, .int 1, rfl, rfl, trivial, _, rfl, p_is_between (ts x hx) q'⟩⟩) ?_
      refine ⟨[.lst (xs.map fun x => .bl (btw x 0 (n - 1)))], rfl, ⟨_, _, rfl, blsD_map _ xs⟩, _, rfl, ?_⟩
      cases hb : xs.all (fun x => btw x 0 (n - 1)) with
      | false =>
        refine ite_t (congrArg (!·) ((all_id (fun x => btw x 0 (n - 1)) xs).trans hb)) ⟨_, rfl, ?_⟩
        have e : labB n (D.lst xs) = false := by
          unfold labB
          show (true && (xs.all (fun x => btw x 0 (n - 1)) && _)) = false
          rw [hb]
          rfl
        rw [e] at q
        exact q
      | true =>
        refine ite_f (congrArg (!·) ((all_id (fun x => btw x 0 (n - 1)) xs).trans hb)) ?_
        obtain ⟨ns, rfl, hn⟩ := intsD_btw fun x hx => List.all_eq_true.mp hb x hx
        refine ⟨_, rfl, D.lst (ns.map D.int), ns, rfl, rfl, intsD_map ns, by have : (ns.map D.int).length ≤ 4000 := tl; rw [List.length_map] at this; exact this, _, rfl, [D.lst (ns.map D.int)], rfl, rfl, .int (dCount ns), .int (ns.map D.int).length, rfl, rfl, cEq_int _ _, _, rfl, ?_⟩
        have e : labB n (D.lst (ns.map D.int)) = decide (dCount ns = (ns.map D.int).length) := by
          unfold labB
          show (true && ((ns.map D.int).all (fun x => btw x 0 (n - 1)) && decide (dCount ((intsD (ns.map D.int)).getD []) = (ns.map D.int).length))) = _
          rw [hb, intsD_map]
          rfl
        rw [e] at q
        have e2 : eqD (.int (dCount ns)) (.int (ns.map D.int).length) = decide (dCount ns = (ns.map D.int).length) := by
          rw [eqD_int, Bool.eq_iff_iff, beq_iff_eq, decide_eq_true_eq]
          omega
        show Q (.bl (eqD (.int (dCount ns)) (.int (ns.map D.int).length)))
        rw [e2]
        exact q
    | tup xs =>
      refine lc_plain trivial (fun x => .bl (btw x 0 (n - 1))) xs (by unfold line; have : xs.length ≤ 4000 := tl; omega) (fun x hx => ⟨_, rfl, fun Q' q' => ⟨_, rfl, _, rfl, .int n, .int 1, rfl, rfl, trivial, _, rfl, p_is_between (ts x hx) q'⟩⟩) ?_
      refine ⟨[.lst (xs.map fun x => .bl (btw x 0 (n - 1)))], rfl, ⟨_, _, rfl, blsD_map _ xs⟩, _, rfl, ?_⟩
      cases hb : xs.all (fun x => btw x 0 (n - 1)) with
      | false =>
        refine ite_t (congrArg (!·) ((all_id (fun x => btw x 0 (n - 1)) xs).trans hb)) ⟨_, rfl, ?_⟩
        have e : labB n (D.tup xs) = false := by
          unfold labB
          show (true && (xs.all (fun x => btw x 0 (n - 1)) && _)) = false
          rw [hb]
          rfl
        rw [e] at q
        exact q
      | true =>
        refine ite_f (congrArg (!·) ((all_id (fun x => btw x 0 (n - 1)) xs).trans hb)) ?_
        obtain ⟨ns, rfl, hn⟩ := intsD_btw fun x hx => List.all_eq_true.mp hb x hx
        refine ⟨_, rfl, D.tup (ns.map D.int), ns, rfl, rfl, intsD_map ns, by have : (ns.map D.int).length ≤ 4000 := tl; rw [List.length_map] at this; exact this, _, rfl, [D.tup (ns.map D.int)], rfl, rfl, .int (dCount ns), .int (ns.map D.int).length, rfl, rfl, cEq_int _ _, _, rfl, ?_⟩
        have e : labB n (D.tup (ns.map D.int)) = decide (dCount ns = (ns.map D.int).length) := by
          unfold labB
          show (true && ((ns.map D.int).all (fun x => btw x 0 (n - 1)) && decide (dCount ((intsD (ns.map D.int)).getD []) = (ns.map D.int).length))) = _
          rw [hb, intsD_map]
          rfl
        rw [e] at q
        have e2 : eqD (.int (dCount ns)) (.int (ns.map D.int).length) = decide (dCount ns = (ns.map D.int).length) := by
          rw [eqD_int, Bool.eq_iff_iff, beq_iff_eq, decide_eq_true_eq]
          omega
        show Q (.bl (eqD (.int (dCount ns)) (.int (ns.map D.int).length)))
        rw [e2]
        exact q
    | _ => cases hs
theorem p_is_tuple {p : Int × Int} (q : Q (.bl true)) : m_is_tuple [pairD p, .int 2] Q E := by
  refine mFc.mk ⟨_, rfl, pairD p, rfl, rfl, _, rfl, ite_t rfl ⟨_, rfl, [pairD p], rfl, rfl, _, rfl, .int 2, .int 2, rfl, rfl, cEq_int _ _, _, rfl, ?_⟩⟩
  show Q (.bl (eqD (.int 2) (.int 2)))
  rw [eqD_int]
  exact q
theorem p_is_pairs {n : Nat} {P : List (Int × Int)} (G : GoodP n P) (hl : P.length < 64) (q : Q (.bl true)) : m_is_pairs [.int n, .lst (P.map pairD)] Q E := by
  refine mFc.mk ⟨_, rfl, _, rfl, p_is_list rfl ⟨_, rfl, ite_f rfl ⟨_, rfl, ?_⟩⟩⟩
  refine loop_inv (fun rest env S => (∀ x ∈ rest, ∃ p ∈ P, x = pairD p) ∧ ∃ x2 x3 : Option W, env = [some (.d (.int n)), some (.d (.lst (P.map pairD))), x2, x3] ∧ S = []) (fun _ => trivial) ?_ ?_ _ _ _ ⟨fun x hx => by obtain ⟨p, hp, e⟩ := List.mem_map.mp hx; exact ⟨p, hp, e.symm⟩, none, none, rfl, rfl⟩
  · rintro x rest env S ⟨hx, x2, x3, rfl, rfl⟩ N hN
    obtain ⟨p, hp, rfl⟩ := hx _ List.mem_cons_self
    obtain ⟨b1, b2⟩ := G.2 p hp
    refine ⟨_, rfl, _, rfl, _, rfl, p_is_tuple ⟨_, rfl, ite_f rfl ⟨_, rfl, ?_⟩⟩⟩
    refine lc_plain trivial (fun x => .bl (btw x 0 ((n : Int) - 1))) [.int p.1, .int p.2] (by show (2 : Nat) ≤ line; decide) (fun x hx => ⟨_, rfl, fun Q' q' => ⟨_, rfl, _, rfl, .int n, .int 1, rfl, rfl, trivial, _, rfl, p_is_between ?_ q'⟩⟩) ?_
    · simp only [List.mem_cons, List.mem_nil_iff, or_false] at hx
      rcases hx with rfl | rfl <;> rfl
    · have hh : ([D.int p.1, D.int p.2]).all (fun x => btw x 0 ((n : Int) - 1)) = true := btwI (lo := 0) (hi := (n : Int) - 1) (ns := [p.1, p.2]) fun x hx => by
        simp only [List.mem_cons, List.mem_nil_iff, or_false] at hx
        rcases hx with rfl | rfl <;> omega
      exact ⟨[.lst ([D.int p.1, D.int p.2].map fun x => .bl (btw x 0 ((n : Int) - 1)))], rfl, ⟨_, _, rfl, blsD_map _ _⟩, _, rfl, ite_f (congrArg (!·) ((all_id (fun x => btw x 0 ((n : Int) - 1)) [D.int p.1, D.int p.2]).trans hh)) (hN _ _ ⟨fun y hy => hx y (List.mem_cons_of_mem _ hy), _, _, rfl, rfl⟩)⟩
  · rintro env S ⟨_, x2, x3, rfl, rfl⟩
    have ep : P.map pairD = (P.map fun p => ([p.1, p.2] : List Int)).map tupI := by
      rw [List.map_map]
      rfl
    refine ⟨_, rfl, P.map (fun p => [p.1, p.2]), by rw [← ep]; rfl, by rw [List.length_map]; exact hl, _, rfl, [.lst (P.map pairD)], rfl, rfl, .int (dCountT (P.map fun p => [p.1, p.2])), .int (P.map pairD).length, rfl, rfl, cEq_int _ _, _, rfl, ?_⟩
    have nd : (P.map fun p => ([p.1, p.2] : List Int)).Nodup := by
      rw [List.nodup_iff_pairwise_ne, List.pairwise_map]
      exact (List.nodup_iff_pairwise_ne.mp G.1).imp fun h e => h (pr_inj e)
    show Q (.bl (eqD (.int (dCountT (P.map fun p => [p.1, p.2]))) (.int (P.map pairD).length)))
    rw [eqD_int, dCountT_nodup nd, List.length_map, List.length_map]
    simpa using q
theorem p_need_pairs {n : Nat} {P : List (Int × Int)} (n1 : 1 ≤ n) (n2 : n ≤ 12) (G : GoodP n P) (hl : P.length < 64) (q : Q .non) : m_need_pairs [.int n, .lst (P.map pairD)] Q E := by
  have b1 : btw (.int (n : Int)) 1 12 = true := by simp only [btw, decide_eq_true (show (1 : Int) ≤ n by omega), decide_eq_true (show (n : Int) ≤ 12 by omega), Bool.and_self]
  refine mFc.mk ⟨_, rfl, _, rfl, p_is_between rfl ⟨_, rfl, ite_f (congrArg (!·) b1) ?_⟩⟩
  exact ⟨_, rfl, _, rfl, _, rfl, p_is_pairs G hl ⟨_, rfl, ite_f rfl q⟩⟩
/-! problems -/
def IsProb (n : Nat) (P : List (Int × Int)) (d : D) : Prop := ∃ c fs, c ∈ ownAll ∧ d = .ins c (("labels", .int n) :: ("pairs", .tup ((srtP P).map pairD)) :: fs)
theorem p_Ring {n : Nat} {P : List (Int × Int)} (n1 : 1 ≤ n) (n2 : n ≤ 12) (G : GoodP n P) (hl : P.length < 64) (q : ∀ d, IsProb n P d → Q d) : m_RingProblem [.int n, .lst (P.map pairD)] Q E := by
  refine mIni.mk ⟨_, rfl, _, rfl, _, rfl, p_need_pairs n1 n2 G hl ?_⟩
  refine ⟨_, rfl, _, rfl, 0, _, rfl, rfl, by decide, ?_⟩
  refine ⟨_, rfl, [.lst (P.map pairD)], rfl, (srt_pairs P).1, ?_⟩
  have e : f1 fSrt [.lst (P.map pairD)] = .lst ((srtP P).map pairD) := (srt_pairs P).2
  rw [e]
  refine ⟨[.lst ((srtP P).map pairD)], rfl, rfl, _, rfl, 0, _, rfl, rfl, (by show (1 : Nat) < 1000; decide), ?_⟩
  exact ⟨_, _, rfl, rfl, q _ ⟨_, _, (by show Str.ofString "RingProblem" ∈ ownAll; decide), rfl⟩⟩
theorem p_Path {n : Nat} {P : List (Int × Int)} {s e : List Int} (n1 : 1 ≤ n) (n2 : n ≤ 12) (G : GoodP n P) (hl : P.length < 64) (sn : s.Nodup) (sr : ∀ x ∈ s, 0 ≤ x ∧ x < n) (sl : s.length ≤ 4000) (en : e.Nodup) (er : ∀ x ∈ e, 0 ≤ x ∧ x < n) (el : e.length ≤ 4000) (q : ∀ d, IsProb n P d → Q d) : m_PathProblem [.int n, .lst (P.map pairD), .lst (s.map D.int), .lst (e.map D.int)] Q E := by
  refine mIni.mk ⟨_, rfl, _, rfl, _, rfl, p_need_pairs n1 n2 G hl ?_⟩
  refine ⟨_, rfl, _, rfl, _, rfl, p_is_labels (okSeqL sl).1 ⟨_, rfl, ite_f (congrArg (!·) (labB_good sn sr).1) ?_⟩⟩
  refine ⟨_, rfl, _, rfl, _, rfl, p_is_labels (okSeqL el).1 ⟨_, rfl, ite_f (congrArg (!·) (labB_good en er).1) ?_⟩⟩
  refine ⟨_, rfl, _, rfl, 0, _, rfl, rfl, by decide, ?_⟩
  refine ⟨_, rfl, [.lst (P.map pairD)], rfl, (srt_pairs P).1, ?_⟩
  have e1 : f1 fSrt [.lst (P.map pairD)] = .lst ((srtP P).map pairD) := (srt_pairs P).2
  rw [e1]
  refine ⟨[.lst ((srtP P).map pairD)], rfl, rfl, _, rfl, 0, _, rfl, rfl, (by show (1 : Nat) < 1000; decide), ?_⟩
  refine ⟨_, rfl, [.lst (s.map D.int)], rfl, (srt_ints s).1, ?_⟩
  have e2 : f1 fSrt [.lst (s.map D.int)] = .lst ((srtI s).map D.int) := (srt_ints s).2
  rw [e2]
  refine ⟨[.lst ((srtI s).map D.int)], rfl, rfl, _, rfl, 0, _, rfl, rfl, (by show (2 : Nat) < 1000; decide), ?_⟩
  refine ⟨_, rfl, [.lst (e.map D.int)], rfl, (srt_ints e).1, ?_⟩
  have e3 : f1 fSrt [.lst (e.map D.int)] = .lst ((srtI e).map D.int) := (srt_ints e).2
  rw [e3]
  refine ⟨[.lst ((srtI e).map D.int)], rfl, rfl, _, rfl, 0, _, rfl, rfl, (by show (3 : Nat) < 1000; decide), ?_⟩
  exact ⟨_, _, rfl, rfl, q _ ⟨_, _, (by show Str.ofString "PathProblem" ∈ ownAll; decide), rfl⟩⟩
theorem p_made {n : Nat} {P : List (Int × Int)} {st en : D} (n1 : 1 ≤ n) (n2 : n ≤ 12) (G : GoodP n P) (hl : P.length < 64) (hE : Ends2 n st en) (q : ∀ d, IsProb n P d → Q d) : m__law_made [skD n P st en] Q E := by
  have aL : dAt [(D.str "labels", D.int n), (.str "pairs", .lst (P.map pairD)), (.str "starts", st), (.str "ends", en)] (.str "labels") (some (.int n)) := .inl ⟨.inr "labels", rfl, rfl⟩
  have aP : dAt [(D.str "labels", D.int n), (.str "pairs", .lst (P.map pairD)), (.str "starts", st), (.str "ends", en)] (.str "pairs") (some (.lst (P.map pairD))) := .inl ⟨.inr "pairs", rfl, rfl⟩
  have aS : dAt [(D.str "labels", D.int n), (.str "pairs", .lst (P.map pairD)), (.str "starts", st), (.str "ends", en)] (.str "starts") (some st) := .inl ⟨.inr "starts", rfl, rfl⟩
  have aE : dAt [(D.str "labels", D.int n), (.str "pairs", .lst (P.map pairD)), (.str "starts", st), (.str "ends", en)] (.str "ends") (some en) := .inl ⟨.inr "ends", rfl, rfl⟩
  refine mFc.mk ⟨_, rfl, _, .str "starts", st, rfl, rfl, aS, st, .non, rfl, rfl, rfl, _, rfl, ?_⟩
  rcases hE with ⟨rfl, rfl⟩ | ⟨s, e, rfl, rfl, sn, en', sr, er⟩
  · refine ite_t rfl ⟨_, rfl, _, .str "labels", .int n, rfl, rfl, aL, _, rfl, _, .str "pairs", .lst (P.map pairD), rfl, rfl, aP, _, rfl, p_Ring n1 n2 G hl fun d hd => ⟨_, rfl, q d hd⟩⟩
  · have sl : s.length ≤ 4000 := by
      have := nodup_leG s (rg0 n) sn fun x hx => rg0_mem.mpr (sr x hx)
      rw [rg0_len] at this
      omega
    have el : e.length ≤ 4000 := by
      have := nodup_leG e (rg0 n) en' fun x hx => rg0_mem.mpr (er x hx)
      rw [rg0_len] at this
      omega
    refine ite_f rfl ⟨_, rfl, _, .str "labels", .int n, rfl, rfl, aL, _, rfl, _, .str "pairs", .lst (P.map pairD), rfl, rfl, aP, _, rfl, _, .str "starts", .lst (s.map D.int), rfl, rfl, aS, _, rfl, _, .str "ends", .lst (e.map D.int), rfl, rfl, aE, _, rfl, p_Path n1 n2 G hl sn sr sl en' er el fun d hd => ⟨_, rfl, q d hd⟩⟩
end

section
variable {Q E : D → Prop}
theorem p_behind {n : Nat} {P : List (Int × Int)} {d : D} (n2 : n ≤ 100) (G : GoodP n P) (hl : P.length < 64) (hd : IsProb n P d) (q : Q (behD n (srtP P))) : m_behind_of [d] Q E := by
  obtain ⟨c, fs, hc, rfl⟩ := hd
  have hSP : ∀ p ∈ srtP P, 0 ≤ p.1 ∧ p.1 < n := fun p hp => (G.2 p (srtP_mem.mp hp)).1
  refine mFc.mk ⟨_, rfl, c, _, .int n, rfl, hc, rfl, n, rfl, ⟨by omega, by omega⟩, ?_⟩
  rw [Int.toNat_natCast]
  refine lc_news (rangeD 0 n) [] [] (by rw [range_len]; show 0 + n ≤ line; unfold line; omega) (fun x _ => ⟨_, rfl⟩) ?_
  rw [range_len, List.nil_append, List.nil_append]
  have e0 : List.replicate n (O.lst []) = rowsO n [] := by
    unfold rowsO
    refine List.ext_getElem? fun i => ?_
    rw [List.getElem?_map]
    by_cases hi : i < n
    · rw [List.getElem?_replicate, if_pos hi, List.getElem?_range hi]
      rfl
    · rw [List.getElem?_replicate, if_neg hi, List.getElem?_eq_none (by rw [List.length_range]; omega)]
      rfl
  rw [e0]
  rw [rows_len]
  refine ⟨_, rfl, c, _, .tup ((srtP P).map pairD), rfl, hc, rfl, ?_⟩
  refine loop_inv (fun rest env S => ∃ (done left : List (Int × Int)) (x2 x3 x4 : Option W), done ++ left = srtP P ∧ rest = left.map pairD ∧ env = [some (.d (.ins c (("labels", .int n) :: ("pairs", .tup ((srtP P).map pairD)) :: fs))), some (.ref n), x2, x3, x4] ∧ S = rowsO n done ++ [.lst (refsW n)]) (fun _ => trivial) ?_ ?_ _ _ _
    ⟨[], _, none, none, none, rfl, rfl, rfl, rfl⟩
  · rintro x rest env S ⟨done, left, x2, x3, x4, he, hr, rfl, rfl⟩ N hN
    cases left with
    | nil => cases hr
    | cons p left =>
      rw [List.map_cons] at hr
      injection hr with hx hr
      subst hx
      have hp := hSP p (by rw [← he]; simp)
      have hd2 : done.length ≤ 64 := by
        have := congrArg List.length he
        rw [List.length_append, srtP_len] at this
        omega
      have bl := beh_len done p.1
      have pn : p.1.toNat < n := by omega
      have ep : ((p.1.toNat : Nat) : Int) = p.1 := by omega
      have ra : (rowsO n done ++ [O.lst (refsW n)])[p.1.toNat]? = some (.lst (((behI done p.1).map D.int).map W.d)) := by
        rw [rows_at pn, ep]
      refine ⟨_, rfl, _, rfl, _, rfl, n, refsW n, p.1, .ref p.1.toNat, rfl, rfl, rows_end n done _, refs_at hp.1 hp.2, p.1.toNat, _, rfl, ra, _, rfl, .d (.int p.2), _, rfl, ra, by rw [List.length_map, List.length_map]; unfold line; omega, ?_⟩
      refine hN _ _ ⟨done ++ [p], left, _, _, _, by rw [List.append_assoc]; exact he, hr, rfl, rows_set hp.1 hp.2⟩
  · rintro env S ⟨done, left, x2, x3, x4, he, hr, rfl, rfl⟩
    cases left with
    | cons a b => cases hr
    | nil =>
      rw [List.append_nil] at he
      subst he
      exact ⟨_, rfl, _, dp_rows n _, q⟩
end

section
variable {Q E : D → Prop}
end

section
variable {n : Nat} {P : List (Int × Int)} {F : Int → Bool} {bs : List Int}
end
section
variable {Q E : D → Prop}
theorem p_rows {n : Nat} (k : Nat) (hn : n ≤ 5) (hk : k ≤ 6) (q : Q (.lst ((rowsA n k).map tupI))) : m__law_rows [.int n, .int k] Q E := by
  have pw : ∀ j, j ≤ 6 → n ^ j ≤ 15625 := fun j hj => Nat.le_trans (Nat.pow_le_pow_left hn j) (Nat.le_trans (Nat.pow_le_pow_right (by decide) hj) (by decide))
  refine mFc.mk ⟨[], rfl, Nat.zero_le _, [.tup []], rfl, (by show (1 : Nat) ≤ line; decide), _, rfl, k, rfl, ⟨by omega, by omega⟩, ?_⟩
  rw [Int.toNat_natCast]
  refine loop_inv (fun rest env S => ∃ (j : Nat) (x3 x4 x5 x6 : Option W), j + rest.length = k ∧ env = [some (.d (.int n)), some (.d (.int k)), some (.d (.lst ((rowsA n j).map tupI))), x3, x4, x5, x6] ∧ S = []) (fun _ => trivial) ?_ ?_ _ _ _
    ⟨0, none, none, none, none, by rw [range_len]; omega, rfl, rfl⟩
  · rintro x rest env S ⟨j, x3, x4, x5, x6, hj, rfl, rfl⟩ N2 hN
    rw [List.length_cons] at hj
    refine ⟨_, rfl, [], rfl, Nat.zero_le _, _, rfl, ?_⟩
    refine loop_inv (fun restI env S => ∃ (done left : List (List Int)) (x5 x6 : Option W), done ++ left = rowsA n j ∧ restI = left.map tupI ∧ env = [some (.d (.int n)), some (.d (.int k)), some (.d (.lst ((rowsA n j).map tupI))), some (.d x), some (.d (.lst ((done.flatMap (extA n)).map tupI))), x5, x6] ∧ S = []) (fun _ => trivial) ?_ ?_ _ _ _
      ⟨[], _, x5, x6, rfl, rfl, rfl, rfl⟩
    · rintro y restI env S ⟨done, left, x5, x6, he, hr, rfl, rfl⟩ N3 hN3
      cases left with
      | nil => cases hr
      | cons row left =>
        rw [List.map_cons] at hr
        injection hr with hy hr
        subst hy
        have hd : done.length ≤ 15625 := by
          have := congrArg List.length he
          rw [List.length_append, rowsA_len] at this
          have := pw j (by omega)
          omega
        have hlen : (done.flatMap (extA n)).length ≤ 15625 * 5 := by
          rw [List.length_flatMap]
          have e : (done.map fun a => (extA n a).length) = done.map fun _ => n := List.map_congr_left fun a _ => by unfold extA; rw [List.length_map, rg0_len]
          rw [e, List.map_const', List.sum_replicate_nat]
          exact Nat.mul_le_mul hd hn
        have hrow : row.length ≤ 6 := by
          have := rowsA_row (show row ∈ rowsA n j by rw [← he]; simp)
          omega
        refine ⟨_, rfl, _, rfl, _, rfl, n, rfl, ⟨by omega, by omega⟩, ?_⟩
        rw [Int.toNat_natCast, plc_eq, show plcI n = rg0 n from rfl]
        refine lc_plain trivial (elI fun l => tupI (row ++ [l])) ((rg0 n).map D.int) (by rw [List.length_map, rg0_len]; unfold line; omega) (fun z hz => ?_) ?_
        · obtain ⟨l, hl, rfl⟩ := List.mem_map.mp hz
          refine ⟨_, rfl, fun Q' q' => ⟨_, rfl, _, rfl, [.int l], rfl, (by show (1 : Nat) ≤ line; decide), tupI row, .tup [.int l], rfl, rfl, ?_, ?_⟩⟩
          · show (row.map D.int).length + 1 ≤ line
            rw [List.length_map]
            unfold line
            omega
          · have e : plusD (tupI row) (.tup [.int l]) = tupI (row ++ [l]) := plus_tupI row [l]
            rw [e]
            exact q'
        · have e2 : ((rg0 n).map D.int).map (elI fun l => tupI (row ++ [l])) = (extA n row).map tupI := by
            unfold extA
            rw [List.map_map, List.map_map]
            rfl
          rw [e2]
          refine ⟨.lst ((done.flatMap (extA n)).map tupI), .lst ((extA n row).map tupI), rfl, rfl, ?_, ?_⟩
          · show ((done.flatMap (extA n)).map tupI).length + ((extA n row).map tupI).length ≤ line
            rw [List.length_map, List.length_map]
            have : (extA n row).length = n := by unfold extA; rw [List.length_map, rg0_len]
            unfold line
            omega
          · refine hN3 _ _ ⟨done ++ [row], left, some (.d (tupI row)), x6, by rw [List.append_assoc]; exact he, hr, ?_, rfl⟩
            have e3 : (done ++ [row]).flatMap (extA n) = done.flatMap (extA n) ++ extA n row := by
              rw [List.flatMap_append]
              simp
            rw [e3, List.map_append]
            rfl
    · rintro env S ⟨done, left, x5, x6, he, hr, rfl, rfl⟩
      have hl : left = [] := by
        cases left with
        | nil => rfl
        | cons a b => cases hr
      subst hl
      rw [List.append_nil] at he
      subst he
      exact ⟨_, rfl, hN _ _ ⟨j + 1, _, _, _, _, by omega, rfl, rfl⟩⟩
  · rintro env S ⟨j, x3, x4, x5, x6, hj, rfl, rfl⟩
    have : j = k := by
      have : ([] : List D).length = 0 := rfl
      omega
    subst this
    exact ⟨_, rfl, _, rfl, q⟩
end

end RW
namespace RW
open PySem PySem.Spec PyProof.Rows L2 SrtO
variable [Tbl]
local macro_rules | `(tactic| walk_at "sd") => `(tactic| first | exact True.intro | exact rfl | exact cEq_int _ _ | exact Nat.zero_le _ | (simp only [List.length_cons, List.length_nil]; decide) | (show cEq _ _; exact ⟨_, _, rfl, rfl, rfl, rfl⟩) | (show (_ ≤ _) ∧ _; (try dsimp only); omega) | (show _ ∈ errsAll; decide) | (show _ ∈ ownAll; decide) | exact cEq_lit _ _ | exact ⟨by decide, by decide⟩ | (show (_ : Int) < _; (try dsimp only); omega) | (show (0 : Nat) < 1000; decide) | (show (1 : Nat) < 1000; decide) | (show (2 : Nat) < 1000; decide) | (show (3 : Nat) < 1000; decide) | (show (4 : Nat) < 1000; decide) | (show (5 : Nat) < 1000; decide) | fail)
local macro_rules | `(tactic| walk_at "w1") => `(tactic| first | refine ⟨_, rfl, ?_⟩ | refine ⟨_, _, rfl, rfl, ?_⟩ | refine ⟨by walk_at "sd", ?_⟩ | refine ite_t rfl ?_ | refine ite_f rfl ?_ | refine ite_t (eqD_str _) ?_ | refine ite_f (congrArg (!·) (eqD_str _)) ?_ | refine ite_t (eqD_intS _) ?_ | refine ite_f (congrArg (!·) (eqD_intS _)) ?_ | (with_reducible refine mCl.mk ?_) | refine ⟨_, _, rfl, by decide, ?_⟩ | refine ⟨_, _, _, rfl, by decide, rfl, ?_⟩ | refine ⟨_, _, rfl, ?_⟩ | fail)
local macro_rules | `(tactic| walk_at "w") => `(tactic| repeat ((fail_if_success (with_reducible show loopM _ _ _ _ _ _)); (fail_if_success (with_reducible show lcM _ _ _ _ _ _ _ _ _)); walk_at "w1"))
local macro_rules | `(tactic| walk_at "u") => `(tactic| repeat ((fail_if_success (with_reducible show loopM _ _ _ _ _ _)); (fail_if_success (with_reducible show lcM _ _ _ _ _ _ _ _ _)); (fail_if_success (with_reducible show sSeq (sIf _ _ _) _ _ _ _)); (first | (with_reducible refine nx_go ?_) | walk_at "w1")))
/-- the problem of a sketch -/
def ringD (n : Nat) (P : List (Int × Int)) : D := .ins "RingProblem" [("labels", .int n), ("pairs", .tup ((srtP P).map pairD))]
def pathD (n : Nat) (P : List (Int × Int)) (s e : List Int) : D := .ins "PathProblem" [("labels", .int n), ("pairs", .tup ((srtP P).map pairD)), ("starts", .tup ((srtI s).map D.int)), ("ends", .tup ((srtI e).map D.int))]
/-- begins and ends of a sketch, none for a ring -/
abbrev SE := Option (List Int × List Int)
def stD : SE → D
  | none => .non
  | some p => .lst (p.1.map D.int)
def enD : SE → D
  | none => .non
  | some p => .lst (p.2.map D.int)
def SEok (n : Nat) : SE → Prop
  | none => True
  | some (s, e) => s.Nodup ∧ e.Nodup ∧ (∀ x ∈ s, 0 ≤ x ∧ x < n) ∧ ∀ x ∈ e, 0 ≤ x ∧ x < n
def probD (n : Nat) (P : List (Int × Int)) : SE → D
  | none => ringD n P
  | some (s, e) => pathD n P s e
theorem prob_is (n : Nat) (P : List (Int × Int)) (se : SE) : IsProb n P (probD n P se) := by
  rcases se with _ | ⟨s, e⟩
  · exact ⟨_, _, (by show Str.ofString "RingProblem" ∈ ownAll; decide), rfl⟩
  · exact ⟨_, _, (by show Str.ofString "PathProblem" ∈ ownAll; decide), rfl⟩
theorem se_of {n : Nat} {st en : D} (h : Ends2 n st en) : ∃ se, SEok n se ∧ st = stD se ∧ en = enD se := by
  rcases h with ⟨rfl, rfl⟩ | ⟨s, e, rfl, rfl, h⟩
  · exact ⟨none, trivial, rfl, rfl⟩
  · exact ⟨some (s, e), h, rfl, rfl⟩
section
variable {Q E : D → Prop}
theorem p_RingD {n : Nat} {P : List (Int × Int)} (n1 : 1 ≤ n) (n2 : n ≤ 12) (G : GoodP n P) (hl : P.length < 64) (q : Q (ringD n P)) : m_RingProblem [.int n, .lst (P.map pairD)] Q E := by
  refine mIni.mk ?_
  walk_at "w"
  refine p_need_pairs n1 n2 G hl ?_
  walk_at "w"
  refine ⟨(srt_pairs P).1, ?_⟩
  rw [show f1 fSrt [.lst (P.map pairD)] = .lst ((srtP P).map pairD) from (srt_pairs P).2]
  walk_at "w"
  exact q
theorem p_PathD {n : Nat} {P : List (Int × Int)} {s e : List Int} (n1 : 1 ≤ n) (n2 : n ≤ 12) (G : GoodP n P) (hl : P.length < 64) (h : SEok n (some (s, e))) (q : Q (pathD n P s e)) : m_PathProblem [.int n, .lst (P.map pairD), .lst (s.map D.int), .lst (e.map D.int)] Q E := by
  obtain ⟨sn, en, sr, er⟩ := h
  have sl : s.length ≤ 4000 := by
    have := nodup_leG s (rg0 n) sn fun x hx => rg0_mem.mpr (sr x hx)
    rw [rg0_len] at this
    omega
  have el : e.length ≤ 4000 := by
    have := nodup_leG e (rg0 n) en fun x hx => rg0_mem.mpr (er x hx)
    rw [rg0_len] at this
    omega
  refine mIni.mk ?_
  walk_at "w"
  refine p_need_pairs n1 n2 G hl ?_
  walk_at "w"
  refine p_is_labels (okSeqL sl).1 ⟨_, rfl, ite_f (congrArg (!·) (labB_good sn sr).1) ?_⟩
  walk_at "w"
  refine p_is_labels (okSeqL el).1 ⟨_, rfl, ite_f (congrArg (!·) (labB_good en er).1) ?_⟩
  walk_at "w"
  refine ⟨(srt_pairs P).1, ?_⟩
  rw [show f1 fSrt [.lst (P.map pairD)] = .lst ((srtP P).map pairD) from (srt_pairs P).2]
  walk_at "w"
  refine ⟨(srt_ints s).1, ?_⟩
  rw [show f1 fSrt [.lst (s.map D.int)] = .lst ((srtI s).map D.int) from (srt_ints s).2]
  walk_at "w"
  refine ⟨(srt_ints e).1, ?_⟩
  rw [show f1 fSrt [.lst (e.map D.int)] = .lst ((srtI e).map D.int) from (srt_ints e).2]
  walk_at "w"
  exact q
theorem p_madeD {n : Nat} {P : List (Int × Int)} {se : SE} (n1 : 1 ≤ n) (n2 : n ≤ 12) (G : GoodP n P) (hl : P.length < 64) (h : SEok n se) (q : Q (probD n P se)) : m__law_made [skD n P (stD se) (enD se)] Q E := by
  have aL : dAt [(D.str "labels", D.int n), (.str "pairs", .lst (P.map pairD)), (.str "starts", stD se), (.str "ends", enD se)] (.str "labels") (some (.int n)) := .inl ⟨.inr "labels", rfl, rfl⟩
  have aP : dAt [(D.str "labels", D.int n), (.str "pairs", .lst (P.map pairD)), (.str "starts", stD se), (.str "ends", enD se)] (.str "pairs") (some (.lst (P.map pairD))) := .inl ⟨.inr "pairs", rfl, rfl⟩
  have aS : dAt [(D.str "labels", D.int n), (.str "pairs", .lst (P.map pairD)), (.str "starts", stD se), (.str "ends", enD se)] (.str "starts") (some (stD se)) := .inl ⟨.inr "starts", rfl, rfl⟩
  have aE : dAt [(D.str "labels", D.int n), (.str "pairs", .lst (P.map pairD)), (.str "starts", stD se), (.str "ends", enD se)] (.str "ends") (some (enD se)) := .inl ⟨.inr "ends", rfl, rfl⟩
  refine mFc.mk ?_
  walk_at "w"
  refine ⟨_, _, _, rfl, rfl, aS, ?_⟩
  walk_at "w"
  rcases se with _ | ⟨s, e⟩
  · walk_at "w"
    refine ⟨_, _, _, rfl, rfl, aL, ?_⟩
    walk_at "w"
    refine ⟨_, _, _, rfl, rfl, aP, ?_⟩
    walk_at "w"
    refine p_RingD n1 n2 G hl ?_
    walk_at "w"
    exact q
  · walk_at "w"
    refine ⟨_, _, _, rfl, rfl, aL, ?_⟩
    walk_at "w"
    refine ⟨_, _, _, rfl, rfl, aP, ?_⟩
    walk_at "w"
    refine ⟨_, _, _, rfl, rfl, aS, ?_⟩
    walk_at "w"
    refine ⟨_, _, _, rfl, rfl, aE, ?_⟩
    walk_at "w"
    refine p_PathD n1 n2 G hl h ?_
    walk_at "w"
    exact q
end
end RW
namespace RW
open PySem PySem.Spec PyProof.Rows L2 SrtO
variable [Tbl]
local macro_rules | `(tactic| walk_at "sd") => `(tactic| first | exact True.intro | exact rfl | exact cEq_int _ _ | exact Nat.zero_le _ | (simp only [List.length_cons, List.length_nil]; decide) | (show cEq _ _; exact ⟨_, _, rfl, rfl, rfl, rfl⟩) | (show (_ ≤ _) ∧ _; (try dsimp only); omega) | (show _ ∈ errsAll; decide) | (show _ ∈ ownAll; decide) | exact cEq_lit _ _ | exact ⟨by decide, by decide⟩ | (show (_ : Int) < _; (try dsimp only); omega) | (show (0 : Nat) < 1000; decide) | (show (1 : Nat) < 1000; decide) | (show (2 : Nat) < 1000; decide) | (show (3 : Nat) < 1000; decide) | (show (4 : Nat) < 1000; decide) | (show (5 : Nat) < 1000; decide) | fail)
local macro_rules | `(tactic| walk_at "w1") => `(tactic| first | refine ⟨_, rfl, ?_⟩ | refine ⟨_, _, rfl, rfl, ?_⟩ | refine ⟨by walk_at "sd", ?_⟩ | refine ite_t rfl ?_ | refine ite_f rfl ?_ | refine ite_t (eqD_str _) ?_ | refine ite_f (congrArg (!·) (eqD_str _)) ?_ | refine ite_t (eqD_intS _) ?_ | refine ite_f (congrArg (!·) (eqD_intS _)) ?_ | (with_reducible refine mCl.mk ?_) | refine ⟨_, _, rfl, by decide, ?_⟩ | refine ⟨_, _, _, rfl, by decide, rfl, ?_⟩ | refine ⟨_, _, rfl, ?_⟩ | fail)
local macro_rules | `(tactic| walk_at "w") => `(tactic| repeat ((fail_if_success (with_reducible show loopM _ _ _ _ _ _)); (fail_if_success (with_reducible show lcM _ _ _ _ _ _ _ _ _)); walk_at "w1"))
local macro_rules | `(tactic| walk_at "u") => `(tactic| repeat ((fail_if_success (with_reducible show loopM _ _ _ _ _ _)); (fail_if_success (with_reducible show lcM _ _ _ _ _ _ _ _ _)); (fail_if_success (with_reducible show sSeq (sIf _ _ _) _ _ _ _)); (first | (with_reducible refine nx_go ?_) | walk_at "w1")))
def rowW (n : Nat) (beh : Int → List Int) (F : Int → Bool) (t : Nat) : D := .lst ((rg0 n).map fun v => .int (cntW beh F t v))
def waysD (n : Nat) (beh : Int → List Int) (F : Int → Bool) (k : Nat) : List D := (List.range (k + 1)).map (rowW n beh F)
theorem ways_snoc (n : Nat) (beh : Int → List Int) (F : Int → Bool) (k : Nat) : waysD n beh F k ++ [rowW n beh F (k + 1)] = waysD n beh F (k + 1) := by
  unfold waysD
  rw [List.range_succ (n := k + 1), List.map_append]
  rfl
theorem ways_last (n : Nat) (beh : Int → List Int) (F : Int → Bool) (k : Nat) : L2.atI (waysD n beh F k) (-1) = some (rowW n beh F k) := last_at _ k
theorem rowW_at {n : Nat} (beh : Int → List Int) (F : Int → Bool) (t : Nat) {v : Int} (h0 : 0 ≤ v) (h1 : v < n) : L2.atI ((rg0 n).map fun v => D.int (cntW beh F t v)) v = some (.int (cntW beh F t v)) := rg_at _ h0 h1
theorem ways_at {n : Nat} (beh : Int → List Int) (F : Int → Bool) {k t : Nat} (h : t ≤ k) : L2.atI (waysD n beh F k) (t : Int) = some (rowW n beh F t) := by
  have := rng_at (rowW n beh F) (m := k + 1) (j := (t : Int)) (by omega) (by omega)
  rw [Int.toNat_natCast] at this
  exact this
theorem intsM (f : Int → Int) : ∀ xs : List Int, intsD (xs.map fun x => D.int (f x)) = some (xs.map f)
  | [] => rfl
  | x :: xs => by
    show (intsD (xs.map fun x => D.int (f x))).map (f x :: ·) = _
    rw [intsM f xs]
    rfl
theorem sum_ints (f : Int → Int) (xs : List Int) : cNums [.lst (xs.map fun x => D.int (f x))] ∧ fSum [.lst (xs.map fun x => D.int (f x))] = .int (xs.map f).sum := by
  refine ⟨⟨_, _, rfl, intsM f xs⟩, ?_⟩
  show D.int (((intsD (xs.map fun x => D.int (f x))).getD []).sum) = _
  rw [intsM f xs]
  rfl
section
variable {Q E : D → Prop}
theorem p_ways {n : Nat} {P : List (Int × Int)} {d goals : D} {es : List Int} (k : Nat) (hk : k ≤ 1000) (n2 : n ≤ 100) (G : GoodP n P) (hl : P.length < 64) (hd : IsProb n P d) (he : isSeq goals = true ∧ seqD goals = es.map D.int)
    (q : Q (.lst (waysD n (behI (srtP P)) (fun v => decide (v ∈ es)) k))) : m_ways_to [d, goals, .int k] Q E := by
  let beh := behI (srtP P)
  let F : Int → Bool := fun v => decide (v ∈ es)
  have hbeh : ∀ v w, w ∈ beh v → 0 ≤ w ∧ w < n := fun v w hw => (G.2 _ (beh_mem.mp hw)).2
  have lbeh : ∀ v, (beh v).length ≤ 64 := fun v => by
    have := beh_len (srtP P) v
    rw [srtP_len] at this
    show (behI (srtP P) v).length ≤ 64
    omega
  have hd' := hd
  obtain ⟨c, fs, hc, ed⟩ := hd'
  refine mFc.mk ?_
  walk_at "w"
  refine p_behind n2 G hl hd ?_
  rw [ed]
  walk_at "w"
  refine ⟨c, _, .int n, rfl, hc, rfl, ?_⟩
  walk_at "w"
  rw [Int.toNat_natCast, plc_eq, show plcI n = rg0 n from rfl]
  refine lc_ev trivial D.int (fun v => .int (cntW beh F 0 v)) (rg0 n) (by rw [rg0_len]; unfold line; omega) (fun v hv => ⟨_, rfl, fun Q' q' => ?_⟩) ?_
  · walk_at "w"
    refine ⟨⟨rfl, he.1, by rw [he.2]; exact fl_ints es⟩, ?_⟩
    refine ⟨_, rfl, ?_⟩
    have e : in1 (.int v) (seqD goals) = F v := by rw [he.2]; exact in1_ints v es
    rw [e]
    have q2 : Q' (.d (.int (if F v = true then 1 else 0))) _ := q'
    cases hF : F v with
    | true => rw [hF] at q2; exact ite_t rfl q2
    | false => rw [hF] at q2; exact ite_f rfl q2
  walk_at "w"
  rw [Int.toNat_natCast]
  refine loop_rg k (fun j env S => ∃ x5 x6 x7 x8 : Option W, env = [some (.d (.ins c (("labels", .int n) :: ("pairs", .tup ((srtP P).map pairD)) :: fs))), some (.d goals), some (.d (.int k)), some (.d (behD n (srtP P))), some (.ref 0), x5, x6, x7, x8] ∧ S = [.lst ((waysD n beh F j).map W.d)]) (fun _ => trivial) ?_ ?_ _ _ ⟨_, _, _, _, rfl, rfl⟩
  · rintro j hj env S ⟨x5, x6, x7, x8, rfl, rfl⟩ K' kn kc kr kb ke
    walk_at "w"
    refine ⟨.lst (waysD n beh F j), .int (-1), rd_at rfl, rfl, ⟨_, _, rfl, rfl, ways_last n beh F j⟩, ?_⟩
    rw [ixl_at (ways_last n beh F j)]
    walk_at "w"
    refine ⟨c, _, .int n, rfl, hc, rfl, ?_⟩
    walk_at "w"
    rw [Int.toNat_natCast, plc_eq, show plcI n = rg0 n from rfl]
    refine lc_ev trivial D.int (fun v => .int (cntW beh F (j + 1) v)) (rg0 n) (by rw [rg0_len]; unfold line; omega) (fun v hv => ⟨_, rfl, fun Q' q' => ?_⟩) ?_
    · obtain ⟨v0, v1⟩ := rg0_mem.mp hv
      have ab : L2.atI ((rg0 n).map fun v => D.lst ((behI (srtP P) v).map D.int)) v = some (.lst ((beh v).map D.int)) := rg_at _ v0 v1
      walk_at "w"
      refine ⟨⟨_, _, rfl, rfl, ab⟩, ?_⟩
      rw [show fIx (behD n (srtP P)) (.int v) = .lst ((beh v).map D.int) from ixl_at ab]
      walk_at "w"
      refine lc_ev trivial D.int (fun w => .int (cntW beh F j w)) (beh v) (by have := lbeh v; unfold line; omega) (fun w hw => ⟨_, rfl, fun Q2 q2 => ?_⟩) ?_
      · obtain ⟨w0, w1⟩ := hbeh v w hw
        walk_at "w"
        refine ⟨⟨_, _, rfl, rfl, rowW_at beh F j w0 w1⟩, ?_⟩
        rw [show fIx (rowW n beh F j) (.int w) = .int (cntW beh F j w) from ixl_at (rowW_at beh F j w0 w1)]
        exact q2
      walk_at "w"
      refine ⟨(sum_ints (cntW beh F j) (beh v)).1, ?_⟩
      rw [(sum_ints (cntW beh F j) (beh v)).2]
      exact q'
    walk_at "w"
    refine ⟨by unfold waysD line; rw [List.length_map, List.length_map, List.length_range]; omega, ?_⟩
    refine kn _ _ ⟨_, _, _, _, rfl, ?_⟩
    rw [← ways_snoc, List.map_append]
    rfl
  · rintro env S ⟨x5, x6, x7, x8, rfl, rfl⟩
    walk_at "w"
    refine ⟨.lst (waysD n beh F k), ?_, q⟩
    show (mapO (dp 3 _) ((waysD n beh F k).map W.d)).map D.lst = _
    rw [mapO_dp]
    rfl
end
end RW
namespace RW
open PySem PySem.Spec PyProof.Rows L2 SrtO
variable [Tbl]
local macro_rules | `(tactic| walk_at "sd") => `(tactic| first | exact True.intro | exact rfl | exact cEq_int _ _ | exact Nat.zero_le _ | (simp only [List.length_cons, List.length_nil]; decide) | (show cEq _ _; exact ⟨_, _, rfl, rfl, rfl, rfl⟩) | (show (_ ≤ _) ∧ _; (try dsimp only); omega) | (show _ ∈ errsAll; decide) | (show _ ∈ ownAll; decide) | exact cEq_lit _ _ | exact ⟨by decide, by decide⟩ | (show (_ : Int) < _; (try dsimp only); omega) | (show (0 : Nat) < 1000; decide) | (show (1 : Nat) < 1000; decide) | (show (2 : Nat) < 1000; decide) | (show (3 : Nat) < 1000; decide) | (show (4 : Nat) < 1000; decide) | (show (5 : Nat) < 1000; decide) | fail)
local macro_rules | `(tactic| walk_at "w1") => `(tactic| first | refine ⟨_, rfl, ?_⟩ | refine ⟨_, _, rfl, rfl, ?_⟩ | refine ⟨by walk_at "sd", ?_⟩ | refine ite_t rfl ?_ | refine ite_f rfl ?_ | refine ite_t (eqD_str _) ?_ | refine ite_f (congrArg (!·) (eqD_str _)) ?_ | refine ite_t (eqD_intS _) ?_ | refine ite_f (congrArg (!·) (eqD_intS _)) ?_ | (with_reducible refine mCl.mk ?_) | refine ⟨_, _, rfl, by decide, ?_⟩ | refine ⟨_, _, _, rfl, by decide, rfl, ?_⟩ | refine ⟨_, _, rfl, ?_⟩ | fail)
local macro_rules | `(tactic| walk_at "w") => `(tactic| repeat ((fail_if_success (with_reducible show loopM _ _ _ _ _ _)); (fail_if_success (with_reducible show lcM _ _ _ _ _ _ _ _ _)); walk_at "w1"))
local macro_rules | `(tactic| walk_at "u") => `(tactic| repeat ((fail_if_success (with_reducible show loopM _ _ _ _ _ _)); (fail_if_success (with_reducible show lcM _ _ _ _ _ _ _ _ _)); (fail_if_success (with_reducible show sSeq (sIf _ _ _) _ _ _ _)); (first | (with_reducible refine nx_go ?_) | walk_at "w1")))
theorem rfl_dp {S : Sto} (xs : List D) : dp 4 (.lst (xs.map W.d) :: S) (.ref 0) = some (.lst xs) := by
  show (mapO (dp 3 _) (xs.map W.d)).map D.lst = _
  rw [mapO_dp]
  rfl
def aheadI (SP : List (Int × Int)) (v : Int) : List Int := (SP.filter fun p => decide (p.2 = v)).map (·.1)
def endE (P : List (Int × Int)) : SE → Int → Int → Bool
  | none, v, l => decide (l ∈ aheadI (srtP P) v)
  | some (_, e), _, l => decide (l ∈ srtI e)
def frm (n : Nat) : SE → List Int
  | none => rg0 n
  | some (s, _) => srtI s
def startsD (n : Nat) (P : List (Int × Int)) (se : SE) (k : Nat) : D := .lst ((frm n se).map fun v => .tup [.int v, .lst (waysD n (behI (srtP P)) (endE P se v) k)])
section
variable {Q E : D → Prop}
theorem p_starts {n : Nat} {P : List (Int × Int)} {se : SE} (k : Nat) (hk : k ≤ 1000) (n2 : n ≤ 12) (G : GoodP n P) (hl : P.length < 64) (h : SEok n se) (q : Q (startsD n P se k)) : m_starts_of [probD n P se, .int ((k + 1 : Nat) : Int)] Q E := by
  have hp := prob_is n P se
  have ek : ((k + 1 : Nat) : Int) - 1 = (k : Int) := by omega
  refine mFc.mk ?_
  rcases se with _ | ⟨s, e⟩
  · walk_at "w"
    refine loop_rg n (fun j env S => ∃ x2 x4 x5 x6 x7 : Option W, env = [some (.d (ringD n P)), some (.d (.int ((k + 1 : Nat) : Int))), x2, some (.ref 0), x4, x5, x6, x7] ∧ S = [.lst (((List.range j).map fun (i : Nat) => D.tup [.int i, .lst (waysD n (behI (srtP P)) (endE P none i) k)]).map W.d)]) (fun _ => trivial) ?_ ?_ _ _ ⟨_, _, _, _, _, rfl, rfl⟩
    · rintro j hj env S ⟨x2, x4, x5, x6, x7, rfl, rfl⟩ K' kn kc kr kb ke
      walk_at "w"
      refine lc_gen trivial pairD (fun p => decide (p.2 = (j : Int))) (fun p => .int p.1) (srtP P) (by rw [srtP_len]; unfold line; omega) (fun p hp => ⟨_, rfl, fun Q' q' => ?_, fun _ Q' q' => ?_⟩) ?_
      · walk_at "w"
        have e : (p.2 == (j : Int)) = decide (p.2 = (j : Int)) := by by_cases h : p.2 = (j : Int) <;> simp [h]
        rw [eqD_int, e]
        exact q'
      · walk_at "w"
        exact q'
      · walk_at "w"
        show m_ways_to [ringD n P, .lst (((srtP P).filter fun p => decide (p.2 = (j : Int))).map fun p => D.int p.1), .int (((k + 1 : Nat) : Int) - 1)] _ _
        have ea : (((srtP P).filter fun p => decide (p.2 = (j : Int))).map fun p => D.int p.1) = (aheadI (srtP P) j).map D.int := by
          unfold aheadI
          rw [List.map_map]
          rfl
        rw [ea, ek]
        refine p_ways k hk (by omega) G hl (prob_is n P none) ⟨rfl, rfl⟩ ?_
        walk_at "w"
        refine ⟨by rw [List.length_map, List.length_map, List.length_range]; unfold line; omega, ?_⟩
        refine kn _ _ ⟨_, _, _, _, _, rfl, ?_⟩
        rw [List.range_succ, List.map_append, List.map_append]
        rfl
    · rintro env S ⟨x2, x4, x5, x6, x7, rfl, rfl⟩
      walk_at "w"
      refine ⟨_, rfl_dp _, ?_⟩
      have e : ((List.range n).map fun (i : Nat) => D.tup [.int i, .lst (waysD n (behI (srtP P)) (endE P none i) k)]) = (rg0 n).map fun v => D.tup [.int v, .lst (waysD n (behI (srtP P)) (endE P none v) k)] := by
        unfold rg0
        rw [List.map_map]
        rfl
      rw [e]
      exact q
  · obtain ⟨sn, en, sr, er⟩ := h
    walk_at "w"
    show m_ways_to [probD n P (some (s, e)), .tup ((srtI e).map D.int), .int (((k + 1 : Nat) : Int) - 1)] _ _
    rw [ek]
    refine p_ways k hk (by omega) G hl (prob_is n P (some (s, e))) ⟨rfl, rfl⟩ ?_
    walk_at "w"
    have sl : (srtI s).length ≤ 100 := by
      unfold srtI
      rw [(List.mergeSort_perm s _).length_eq]
      have := nodup_leG s (rg0 n) sn fun x hx => rg0_mem.mpr (sr x hx)
      rw [rg0_len] at this
      omega
    refine lc_ev trivial D.int (fun v => .tup [.int v, .lst (waysD n (behI (srtP P)) (endE P (some (s, e)) v) k)]) (srtI s) (by unfold line; omega) (fun v hv => ⟨_, rfl, fun Q' q' => ?_⟩) ?_
    · walk_at "w"
      exact q'
    walk_at "w"
    exact q
end
end RW
namespace RW
open PySem PySem.Spec PyProof.Rows L2 SrtO
variable [Tbl]
local macro_rules | `(tactic| walk_at "sd") => `(tactic| first | exact True.intro | exact rfl | exact cEq_int _ _ | exact Nat.zero_le _ | (simp only [List.length_cons, List.length_nil]; decide) | (show cEq _ _; exact ⟨_, _, rfl, rfl, rfl, rfl⟩) | (show (_ ≤ _) ∧ _; (try dsimp only); omega) | (show _ ∈ errsAll; decide) | (show _ ∈ ownAll; decide) | exact cEq_lit _ _ | exact ⟨by decide, by decide⟩ | (show (_ : Int) < _; (try dsimp only); omega) | (show (0 : Nat) < 1000; decide) | (show (1 : Nat) < 1000; decide) | (show (2 : Nat) < 1000; decide) | (show (3 : Nat) < 1000; decide) | (show (4 : Nat) < 1000; decide) | (show (5 : Nat) < 1000; decide) | fail)
local macro_rules | `(tactic| walk_at "w1") => `(tactic| first | refine ⟨_, rfl, ?_⟩ | refine ⟨_, _, rfl, rfl, ?_⟩ | refine ⟨by walk_at "sd", ?_⟩ | refine ite_t rfl ?_ | refine ite_f rfl ?_ | refine ite_t (eqD_str _) ?_ | refine ite_f (congrArg (!·) (eqD_str _)) ?_ | refine ite_t (eqD_intS _) ?_ | refine ite_f (congrArg (!·) (eqD_intS _)) ?_ | (with_reducible refine mCl.mk ?_) | refine ⟨_, _, rfl, by decide, ?_⟩ | refine ⟨_, _, _, rfl, by decide, rfl, ?_⟩ | refine ⟨_, _, rfl, ?_⟩ | fail)
local macro_rules | `(tactic| walk_at "w") => `(tactic| repeat ((fail_if_success (with_reducible show loopM _ _ _ _ _ _)); (fail_if_success (with_reducible show lcM _ _ _ _ _ _ _ _ _)); walk_at "w1"))
local macro_rules | `(tactic| walk_at "u") => `(tactic| repeat ((fail_if_success (with_reducible show loopM _ _ _ _ _ _)); (fail_if_success (with_reducible show lcM _ _ _ _ _ _ _ _ _)); (fail_if_success (with_reducible show sSeq (sIf _ _ _) _ _ _ _)); (first | (with_reducible refine nx_go ?_) | walk_at "w1")))
section
variable {Q E : D → Prop} {n : Nat} {P : List (Int × Int)} {d : D}
theorem p_needP (hd : IsProb n P d) (q : Q .non) : m_need_problem [d] Q E := by
  obtain ⟨c, fs, hc, rfl⟩ := hd
  refine mFc.mk ⟨_, rfl, _, rfl, hc, _, rfl, ite_f ?_ q⟩
  have : c = "RingProblem" ∨ c = "PathProblem" := by simpa [ownAll] using hc
  rcases this with rfl | rfl <;> rfl
theorem p_needX {x : D} (h : x = .non ∨ x = .int 5 ∨ ∃ kvs, x = .dic kvs) (e : E (.exc "BadProblem" [("part", .non)])) : m_need_problem [x] Q E := by
  have k1 : okIo ownAll x := by rcases h with rfl | rfl | ⟨kvs, rfl⟩ <;> rfl
  have k2 : (isOD "RingProblem" x || isOD "PathProblem" x) = false := by rcases h with rfl | rfl | ⟨kvs, rfl⟩ <;> rfl
  exact mFc.mk ⟨_, rfl, x, rfl, k1, _, rfl, ite_t (congrArg (!·) k2) ⟨.non, rfl, e⟩⟩
theorem btw_t {i lo hi : Int} (h0 : lo ≤ i) (h1 : i ≤ hi) : btw (.int i) lo hi = true := by simp only [btw, decide_eq_true h0, decide_eq_true h1, Bool.and_self]
theorem p_needB {i lo hi : Int} {part : D} (h0 : lo ≤ i) (h1 : i ≤ hi) (q : Q .non) : m_need_between [.int i, .int lo, .int hi, part] Q E :=
  p_need_between rfl (fun _ => q) fun z => nomatch ((btw_t h0 h1).symm.trans z : true = false)
theorem frm_in {se : SE} (h : SEok n se) : ∀ v ∈ frm n se, 0 ≤ v ∧ v < n := by
  intro v hv
  rcases se with _ | ⟨s, e⟩
  · exact rg0_mem.mp hv
  · exact h.2.2.1 v (srtI_mem.mp hv)
theorem frm_len {se : SE} (h : SEok n se) : (frm n se).length ≤ n := by
  rcases se with _ | ⟨s, e⟩
  · show (rg0 n).length ≤ n
    rw [rg0_len]
    exact Nat.le_refl _
  · show (srtI s).length ≤ n
    unfold srtI
    rw [(List.mergeSort_perm s _).length_eq]
    have := nodup_leG s (rg0 n) h.1 fun x hx => rg0_mem.mpr (h.2.2.1 x hx)
    rw [rg0_len] at this
    exact this
def manyI (n : Nat) (P : List (Int × Int)) (se : SE) (k : Nat) : Int := ((frm n se).map fun v => cntW (behI (srtP P)) (endE P se v) k v).sum
theorem p_how {se : SE} (k : Nat) (hk : k + 1 ≤ 400) (n2 : n ≤ 12) (G : GoodP n P) (hl : P.length < 64) (h : SEok n se) (q : Q (.int (manyI n P se k))) : m_how_many [probD n P se, .int ((k + 1 : Nat) : Int)] Q E := by
  have ek : ((k + 1 : Nat) : Int) - 1 = (k : Int) := by omega
  refine mFc.mk ?_
  walk_at "w"
  refine p_needP (prob_is n P se) ?_
  walk_at "w"
  refine p_needB (by omega) (by omega) ?_
  walk_at "w"
  refine p_starts k (by omega) n2 G hl h ?_
  walk_at "w"
  have fl := frm_len h
  refine lc_ev trivial _ (fun v => .int (cntW (behI (srtP P)) (endE P se v) k v)) (frm n se) (by unfold line; omega) (fun v hv => ⟨_, rfl, fun Q' q' => ?_⟩) ?_
  · obtain ⟨v0, v1⟩ := frm_in h v hv
    walk_at "w"
    rw [show iD (fun i j => i - j) (.int ((k + 1 : Nat) : Int)) (.int 1) = .int k from congrArg D.int ek]
    have aw := ways_at (n := n) (behI (srtP P)) (endE P se v) (Nat.le_refl k)
    refine ⟨⟨_, _, rfl, rfl, aw⟩, ?_⟩
    rw [show fIx (.lst (waysD n (behI (srtP P)) (endE P se v) k)) (.int k) = rowW n (behI (srtP P)) (endE P se v) k from ixl_at aw]
    walk_at "w"
    have ar := rowW_at (behI (srtP P)) (endE P se v) k v0 v1
    refine ⟨⟨_, _, rfl, rfl, ar⟩, ?_⟩
    rw [show fIx (rowW n (behI (srtP P)) (endE P se v) k) (.int v) = .int (cntW (behI (srtP P)) (endE P se v) k v) from ixl_at ar]
    exact q'
  walk_at "w"
  refine ⟨(sum_ints (fun v => cntW (behI (srtP P)) (endE P se v) k v) (frm n se)).1, ?_⟩
  rw [(sum_ints (fun v => cntW (behI (srtP P)) (endE P se v) k v) (frm n se)).2]
  walk_at "w"
  exact q
theorem p_some_lab {se : SE} (k : Nat) (hk : k + 1 ≤ 400) (n2 : n ≤ 12) (G : GoodP n P) (hl : P.length < 64) (h : SEok n se) (q : Q (walkD (walkE (behI (srtP P)) (endE P se) k (frm n se)))) : m_some_labelling [probD n P se, .int ((k + 1 : Nat) : Int)] Q E := by
  have ek : ((k + 1 : Nat) : Int) - 1 = (k : Int) := by omega
  refine mFc.mk ?_
  walk_at "w"
  refine p_needP (prob_is n P se) ?_
  walk_at "w"
  refine p_needB (by omega) (by omega) ?_
  walk_at "w"
  refine p_behind (by omega) G hl (prob_is n P se) ?_
  walk_at "w"
  refine p_starts k (by omega) n2 G hl h ?_
  walk_at "w"
  have fl := frm_len h
  refine loop_gen _ (fun done env S => ∃ x3 x4 x5 x6 x7 : Option W, (∀ v ∈ done, leadR (behI (srtP P)) (endE P se v) k v = false) ∧ env = [some (.d (probD n P se)), some (.d (.int ((k + 1 : Nat) : Int))), some (.d (behD n (srtP P))), x3, x4, x5, x6, x7] ∧ S = []) (fun _ => trivial) (frm n se) [] ?_ ?_ _ _ ⟨_, _, _, _, _, (fun v hv => nomatch hv), rfl, rfl⟩
  · rintro done v rest he env S ⟨x3, x4, x5, x6, x7, hz, rfl, rfl⟩ K' kn kc kr kb ke
    have hvm : v ∈ frm n se := by
      rw [List.nil_append] at he
      rw [he]
      simp
    obtain ⟨v0, v1⟩ := frm_in h v hvm
    let beh := behI (srtP P)
    let F := endE P se v
    have aw : ∀ t, t ≤ k → L2.atI (waysD n beh F k) (t : Int) = some (rowW n beh F t) := fun t ht => ways_at beh F ht
    walk_at "w"
    rw [show iD (fun i j => i - j) (.int ((k + 1 : Nat) : Int)) (.int 1) = .int k from congrArg D.int ek]
    refine ⟨⟨_, _, rfl, rfl, aw k (Nat.le_refl k)⟩, ?_⟩
    rw [show fIx (.lst (waysD n beh F k)) (.int k) = rowW n beh F k from ixl_at (aw k (Nat.le_refl k))]
    walk_at "w"
    have ar := fun t => rowW_at (n := n) beh F t v0 v1
    refine ⟨⟨_, _, rfl, rfl, ar k⟩, ?_⟩
    rw [show fIx (rowW n beh F k) (.int v) = .int (cntW beh F k v) from ixl_at (ar k)]
    walk_at "w"
    have ec : decide (0 < cntW beh F k v) = leadR beh F k v := cnt_pos k v
    cases hL : leadR beh F k v with
    | false =>
      refine ite_f (ec.trans hL) ?_
      refine kn _ _ ⟨_, _, _, _, _, fun u hu => ?_, rfl, rfl⟩
      rcases List.mem_append.mp hu with hu | hu
      · exact hz u hu
      · have : u = v := by simpa using hu
        rw [this]
        exact hL
    | true =>
      refine ite_t (ec.trans hL) ?_
      have ew : walkE beh (endE P se) k (frm n se) = some (v :: greedy beh F k v) := by
        rw [List.nil_append] at he
        unfold walkE
        have e0 : done.filter (fun v => leadR beh (endE P se v) k v) = [] := List.filter_eq_nil_iff.mpr fun u hu z => by
          have := hz u hu
          rw [show leadR beh (endE P se u) k u = true from z] at this
          cases this
        rw [he, List.filter_append, e0, List.nil_append, List.filter_cons_of_pos (p := fun v => leadR beh (endE P se v) k v) hL]
      rw [ew] at q
      have hw : ∀ u w, w ∈ beh u → 0 ≤ w ∧ w < n := fun u w z => (G.2 _ (beh_mem.mp z)).2
      walk_at "w"
      have eD : downD (((k + 1 : Nat) : Int) - 2) ((((k + 1 : Nat) : Int) - 2) - (-1)).toNat = (List.range k).map fun (i : Nat) => D.int ((k : Int) - 1 - i) := by
        unfold downD
        rw [show ((((k + 1 : Nat) : Int) - 2) - (-1)).toNat = k by omega]
        exact List.map_congr_left fun i _ => congrArg D.int (by omega)
      rw [eD]
      refine loop_fn k (fun (i : Nat) => D.int ((k : Int) - 1 - i)) (fun j env S => ∃ (gs : List Int) (u : Int) (x6 x7 : Option W), gs.length = j ∧ leadR beh F (k - j) u = true ∧ (0 ≤ u ∧ u < n) ∧ gs ++ u :: greedy beh F (k - j) u = v :: greedy beh F k v ∧ env = [some (.d (probD n P se)), some (.d (.int ((k + 1 : Nat) : Int))), some (.d (behD n (srtP P))), some (.d (.int v)), some (.d (.lst (waysD n beh F k))), some (.ref 0), x6, x7] ∧ S = [.lst (((gs ++ [u]).map D.int).map W.d)]) (fun _ => trivial) ?_ ?_ _ _
        ⟨[], v, x6, x7, rfl, hL, ⟨v0, v1⟩, rfl, rfl, rfl⟩
      · rintro j hj env S ⟨gs, u, x6, x7, gl, hu, ⟨u0, u1⟩, hg, rfl, rfl⟩ K5 n5 c5 r5 b5 e5
        have es : k - j = (k - (j + 1)) + 1 := by omega
        rw [es] at hu hg
        walk_at "w"
        have au : L2.atI ((gs ++ [u]).map D.int) (-1) = some (.int u) := by
          rw [List.map_append]
          exact ends_at _ _
        refine ⟨.lst ((gs ++ [u]).map D.int), .int (-1), rd_at rfl, rfl, ⟨_, _, rfl, rfl, au⟩, ?_⟩
        rw [ixl_at au]
        have ab : L2.atI ((rg0 n).map fun v => D.lst ((behI (srtP P) v).map D.int)) u = some (.lst ((beh u).map D.int)) := rg_at _ u0 u1
        walk_at "w"
        refine ⟨⟨_, _, rfl, rfl, ab⟩, ?_⟩
        rw [show fIx (behD n (srtP P)) (.int u) = .lst ((beh u).map D.int) from ixl_at ab]
        walk_at "w"
        have lb : (beh u).length ≤ 64 := by
          have := beh_len (srtP P) u
          rw [srtP_len] at this
          show (behI (srtP P) u).length ≤ 64
          omega
        refine lc_gen trivial D.int (fun w => leadR beh F (k - (j + 1)) w) D.int (beh u) (by unfold line; omega) (fun w hwm => ⟨_, rfl, fun Q' q' => ?_, fun _ Q' q' => ?_⟩) ?_
        · obtain ⟨w0, w1⟩ := hw u w hwm
          walk_at "w"
          have el : (k : Int) - 1 - j = ((k - (j + 1) : Nat) : Int) := by omega
          rw [el]
          have a1 := aw (k - (j + 1)) (by omega)
          refine ⟨⟨_, _, rfl, rfl, a1⟩, ?_⟩
          rw [show fIx (.lst (waysD n beh F k)) (.int ((k - (j + 1) : Nat) : Int)) = rowW n beh F (k - (j + 1)) from ixl_at a1]
          walk_at "w"
          have a2 := rowW_at (n := n) beh F (k - (j + 1)) w0 w1
          refine ⟨⟨_, _, rfl, rfl, a2⟩, ?_⟩
          rw [show fIx (rowW n beh F (k - (j + 1))) (.int w) = .int (cntW beh F (k - (j + 1)) w) from ixl_at a2]
          walk_at "w"
          show Q' (decide (0 < cntW beh F (k - (j + 1)) w)) _
          rw [show decide (0 < cntW beh F (k - (j + 1)) w) = leadR beh F (k - (j + 1)) w from cnt_pos _ w]
          exact q'
        · walk_at "w"
          exact q'
        · cases hfl : (beh u).filter (fun w => leadR beh F (k - (j + 1)) w) with
          | nil =>
            obtain ⟨w, w1, w2⟩ := List.any_eq_true.mp (show (beh u).any (leadR beh F (k - (j + 1))) = true from hu)
            have : w ∈ (beh u).filter (fun w => leadR beh F (k - (j + 1)) w) := List.mem_filter.mpr ⟨w1, w2⟩
            rw [hfl] at this
            cases this
          | cons w ws =>
            have hwm : w ∈ (beh u).filter (fun w => leadR beh F (k - (j + 1)) w) := by rw [hfl]; exact List.mem_cons_self
            obtain ⟨m1, m2⟩ := List.mem_filter.mp hwm
            have eg : greedy beh F (k - (j + 1) + 1) u = w :: greedy beh F (k - (j + 1)) w := by
              rw [greedy_succ, show (beh u).filter (leadR beh F (k - (j + 1))) = w :: ws from hfl]
            walk_at "w"
            refine ⟨⟨_, _, rfl, rfl, head_at _ _⟩, ?_⟩
            rw [show fIx (.lst ((w :: ws).map D.int)) (.int 0) = .int w from ixl_at (head_at _ _)]
            walk_at "w"
            have gb : gs.length ≤ 400 := by omega
            refine ⟨by rw [List.length_map, List.length_map, List.length_append]; show gs.length + 1 < line; unfold line; omega, ?_⟩
            refine n5 _ _ ⟨gs ++ [u], w, _, _, by rw [List.length_append]; show gs.length + 1 = j + 1; omega, m2, hw u w m1, ?_, rfl, ?_⟩
            · rw [← hg, eg, List.append_assoc]
              rfl
            · show [O.lst (((gs ++ [u]).map D.int).map W.d ++ [.d (.int w)])] = _
              simp
      · rintro env S ⟨gs, u, x6, x7, gl, hu, ⟨u0, u1⟩, hg, rfl, rfl⟩
        walk_at "w"
        rw [Nat.sub_self] at hg
        refine ⟨[.lst ((gs ++ [u]).map D.int)], mapO_one (rd_at rfl), rfl, ?_⟩
        walk_at "w"
        rw [kr]
        have e2 : gs ++ [u] = v :: greedy beh F k v := hg
        show Q (.tup ((gs ++ [u]).map D.int))
        rw [e2]
        exact q
  · rintro env S ⟨x3, x4, x5, x6, x7, hz, rfl, rfl⟩
    walk_at "w"
    have ew : walkE (behI (srtP P)) (endE P se) k (frm n se) = none := by
      unfold walkE
      rw [List.filter_eq_nil_iff.mpr fun u hu z => by
        have := hz u hu
        rw [show leadR (behI (srtP P)) (endE P se u) k u = true from z] at this
        cases this]
    rw [ew] at q
    exact q
end
end RW
namespace RW
open PySem PySem.Spec PyProof.Rows L2 SrtO
variable [Tbl]
local macro_rules | `(tactic| walk_at "sd") => `(tactic| first | exact True.intro | exact rfl | exact cEq_int _ _ | exact Nat.zero_le _ | (simp only [List.length_cons, List.length_nil]; decide) | (show cEq _ _; exact ⟨_, _, rfl, rfl, rfl, rfl⟩) | (show (_ ≤ _) ∧ _; (try dsimp only); omega) | (show _ ∈ errsAll; decide) | (show _ ∈ ownAll; decide) | exact cEq_lit _ _ | exact ⟨by decide, by decide⟩ | (show (_ : Int) < _; (try dsimp only); omega) | (show (0 : Nat) < 1000; decide) | (show (1 : Nat) < 1000; decide) | (show (2 : Nat) < 1000; decide) | (show (3 : Nat) < 1000; decide) | (show (4 : Nat) < 1000; decide) | (show (5 : Nat) < 1000; decide) | fail)
local macro_rules | `(tactic| walk_at "w1") => `(tactic| first | refine ⟨_, rfl, ?_⟩ | refine ⟨_, _, rfl, rfl, ?_⟩ | refine ⟨by walk_at "sd", ?_⟩ | refine ite_t rfl ?_ | refine ite_f rfl ?_ | refine ite_t (eqD_str _) ?_ | refine ite_f (congrArg (!·) (eqD_str _)) ?_ | refine ite_t (eqD_intS _) ?_ | refine ite_f (congrArg (!·) (eqD_intS _)) ?_ | (with_reducible refine mCl.mk ?_) | refine ⟨_, _, rfl, by decide, ?_⟩ | refine ⟨_, _, _, rfl, by decide, rfl, ?_⟩ | refine ⟨_, _, rfl, ?_⟩ | fail)
local macro_rules | `(tactic| walk_at "w") => `(tactic| repeat ((fail_if_success (with_reducible show loopM _ _ _ _ _ _)); (fail_if_success (with_reducible show lcM _ _ _ _ _ _ _ _ _)); walk_at "w1"))
local macro_rules | `(tactic| walk_at "u") => `(tactic| repeat ((fail_if_success (with_reducible show loopM _ _ _ _ _ _)); (fail_if_success (with_reducible show lcM _ _ _ _ _ _ _ _ _)); (fail_if_success (with_reducible show sSeq (sIf _ _ _) _ _ _ _)); (first | (with_reducible refine nx_go ?_) | walk_at "w1")))
def begB : SE → Int → Bool
  | none, _ => true
  | some (s, _), v => decide (v ∈ s)
def endB (P : List (Int × Int)) : SE → Int → Int → Bool
  | none, v, l => decide ((l, v) ∈ P)
  | some (_, e), _, l => decide (l ∈ e)
def okR (P : List (Int × Int)) (se : SE) (row : List Int) : Bool := okE (begB se) (endB P se) (fun a b => decide ((a, b) ∈ P)) row
theorem zip_all (p : Int × Int → Bool) : ∀ row : List Int, ((row.zip row.tail).all p = true ↔ ∀ i, i + 1 < row.length → p (row.getD i 0, row.getD (i + 1) 0) = true)
  | [] => by simp
  | [a] => by simp
  | a :: b :: r => by
    have ih := zip_all p (b :: r)
    show (p (a, b) && ((b :: r).zip r).all p) = true ↔ _
    rw [Bool.and_eq_true]
    constructor
    · rintro ⟨h1, h2⟩ i hi
      cases i with
      | zero => exact h1
      | succ i => exact ih.mp h2 i (by simpa using hi)
    · intro h
      exact ⟨h 0 (by simp), ih.mpr fun i hi => h (i + 1) (by simpa using hi)⟩
theorem last_getD : ∀ {row : List Int}, row ≠ [] → row.getLastD 0 = row.getD (row.length - 1) 0
  | [], h => absurd rfl h
  | [a], _ => rfl
  | a :: b :: r, _ => by
    have ih := last_getD (row := b :: r) (by simp)
    have e : (a :: b :: r).getLastD 0 = (b :: r).getLastD 0 := by simp [List.getLastD]
    rw [e, ih]
    rfl
theorem head_getD {row : List Int} (h : row ≠ []) : row.headD 0 = row.getD 0 0 := by
  cases row with
  | nil => exact absurd rfl h
  | cons a r => rfl
theorem okR_iff {P : List (Int × Int)} {se : SE} {row : List Int} (h : row ≠ []) : okR P se row = true ↔ begB se (row.getD 0 0) = true ∧ (∀ i, i + 1 < row.length → (row.getD i 0, row.getD (i + 1) 0) ∈ P) ∧ endB P se (row.getD 0 0) (row.getD (row.length - 1) 0) = true := by
  unfold okR okE
  rw [okW_eq h, Bool.and_eq_true, Bool.and_eq_true, last_getD h, head_getD h, zip_all]
  simp only [decide_eq_true_eq]
theorem tup_at {row : List Int} {i : Int} (h0 : 0 ≤ i) (h1 : i < row.length) : L2.atI (row.map D.int) i = some (.int (row.getD i.toNat 0)) := by
  rw [atI_pos h0 (by rw [List.length_map]; exact h1)]
  rw [List.getD_eq_getElem?_getD, List.getD_eq_getElem?_getD, List.getElem?_map, List.getElem?_eq_getElem (show i.toNat < row.length by omega)]
  rfl
section
variable {Q E : D → Prop}
theorem p_break {n : Nat} {P : List (Int × Int)} {se : SE} {row : List Int} (hne : row ≠ []) (hl : row.length ≤ 1000) (q : ∀ d, isNon d = okR P se row → Q d) : m__law_break [skD n P (stD se) (enD se), tupI row] Q E := by
  have aP : dAt [(D.str "labels", D.int n), (.str "pairs", .lst (P.map pairD)), (.str "starts", stD se), (.str "ends", enD se)] (.str "pairs") (some (.lst (P.map pairD))) := .inl ⟨.inr "pairs", rfl, rfl⟩
  have aS : dAt [(D.str "labels", D.int n), (.str "pairs", .lst (P.map pairD)), (.str "starts", stD se), (.str "ends", enD se)] (.str "starts") (some (stD se)) := .inl ⟨.inr "starts", rfl, rfl⟩
  have aE : dAt [(D.str "labels", D.int n), (.str "pairs", .lst (P.map pairD)), (.str "starts", stD se), (.str "ends", enD se)] (.str "ends") (some (enD se)) := .inl ⟨.inr "ends", rfl, rfl⟩
  have wl : fLen [tupI row] = .int (row.length : Nat) := by
    show D.int (((row.map D.int).length : Nat) : Int) = _
    rw [List.length_map]
  have lp : 0 < row.length := List.length_pos_iff.mpr hne
  have loop : ∀ (ip : D) (m : Nat), m ≤ row.length → ∀ (K : MEnds) (x4 : Option W), (∀ x4, (∀ i, i < m → (row.getD i 0, row.getD ((i + 1) % row.length) 0) ∈ P) → K.nx [some (.d (skD n P (stD se) (enD se))), some (.d (tupI row)), some (.d (.int (row.length : Nat))), some (.d ip), x4] []) →
      (∀ i, i < m → (row.getD i 0, row.getD ((i + 1) % row.length) 0) ∉ P → K.rt (.tup [.str "pair", .int i])) →
      loopM (fun _ => True) (sTgt (gN 4) (sIf (mB (mBin xNotInD (mTup (aCons (mBin xIx (mVar 1) (mVar 4)) (aCons (mBin xIx (mVar 1) (mBin xMod (mBin xAdd (mVar 4) (mD (.int 1))) (mVar 2))) aNil))) (mDGet (mVar 0) (mD (.str "pairs"))))) (sRet (mTup (aCons (mD (.str "pair")) (aCons (mVar 4) aNil)))) sNext)) K (rangeD 0 m) [some (.d (skD n P (stD se) (enD se))), some (.d (tupI row)), some (.d (.int (row.length : Nat))), some (.d ip), x4] [] := by
    intro ip m hm K x4 kn kr
    refine loop_rg m (fun j env S => (∃ x4 : Option W, env = [some (.d (skD n P (stD se) (enD se))), some (.d (tupI row)), some (.d (.int (row.length : Nat))), some (.d ip), x4]) ∧ S = [] ∧ ∀ i, i < j → (row.getD i 0, row.getD ((i + 1) % row.length) 0) ∈ P) (fun _ => trivial) ?_ ?_ _ _ ⟨⟨_, rfl⟩, rfl, fun i hi => absurd hi (Nat.not_lt_zero i)⟩
    · rintro j hj env S ⟨⟨x4, rfl⟩, rfl, hI⟩ K' n' c' r' b' x'
      have em : ((j : Int) + 1) % (row.length : Nat) = (((j + 1) % row.length : Nat) : Int) := by
        rw [Int.natCast_emod, Int.natCast_add]
        rfl
      have a1 := tup_at (row := row) (i := (j : Int)) (by omega) (by omega)
      have a2 := tup_at (row := row) (i := (((j + 1) % row.length : Nat) : Int)) (by omega) (by have := Nat.mod_lt (j + 1) lp; omega)
      rw [Int.toNat_natCast] at a1 a2
      walk_at "w"
      refine ⟨⟨_, _, rfl, rfl, a1⟩, ?_⟩
      rw [show fIx (tupI row) (.int j) = .int (row.getD j 0) from ix_at a1]
      walk_at "w"
      rw [show iD (fun i j => i % j) (plusD (.int j) (.int 1)) (.int (row.length : Nat)) = .int (((j + 1) % row.length : Nat) : Int) from congrArg D.int em]
      refine ⟨⟨_, _, rfl, rfl, a2⟩, ?_⟩
      rw [show fIx (tupI row) (.int (((j + 1) % row.length : Nat) : Int)) = .int (row.getD ((j + 1) % row.length) 0) from ix_at a2]
      walk_at "w"
      refine ⟨_, _, _, rfl, rfl, aP, ?_⟩
      refine ⟨pairD (row.getD j 0, row.getD ((j + 1) % row.length) 0), .lst (P.map pairD), rfl, rfl, cIn_pairs _ _, _, rfl, ?_⟩
      have ei := in_pairs (row.getD j 0, row.getD ((j + 1) % row.length) 0) P
      by_cases hin : (row.getD j 0, row.getD ((j + 1) % row.length) 0) ∈ P
      · refine ite_f (by rw [ei, decide_eq_true hin]; rfl) ?_
        refine n' _ _ ⟨⟨_, rfl⟩, rfl, fun i hi => ?_⟩
        rcases Nat.lt_or_ge i j with z | z
        · exact hI i z
        · have : i = j := by omega
          rw [this]
          exact hin
      · refine ite_t (by rw [ei, decide_eq_false hin]; rfl) ?_
        walk_at "w"
        rw [r']
        exact kr j hj hin
    · rintro env S ⟨⟨x4, rfl⟩, rfl, hI⟩
      exact kn x4 hI
  refine mFc.mk ?_
  walk_at "w"
  rw [wl]
  refine ⟨_, _, _, rfl, rfl, aS, ?_⟩
  rcases se with _ | ⟨s, e⟩
  · walk_at "w"
    refine loop _ row.length (Nat.le_refl _) _ _ (fun x4 hall => ?_) (fun i hi hno => ?_)
    · walk_at "w"
      refine q _ (Eq.symm ((okR_iff hne).mpr ⟨rfl, fun i hi => ?_, ?_⟩))
      · have := hall i (by omega)
        rwa [Nat.mod_eq_of_lt hi] at this
      · have := hall (row.length - 1) (by omega)
        rw [show row.length - 1 + 1 = row.length by omega, Nat.mod_self] at this
        exact decide_eq_true this
    · refine q _ (Eq.symm (Bool.eq_false_iff.mpr fun z => hno ?_))
      obtain ⟨_, h2, h3⟩ := (okR_iff hne).mp z
      by_cases hi1 : i + 1 < row.length
      · rw [Nat.mod_eq_of_lt hi1]
        exact h2 i hi1
      · have : i = row.length - 1 := by omega
        subst this
        rw [show row.length - 1 + 1 = row.length by omega, Nat.mod_self]
        exact of_decide_eq_true h3
  · have a0 := tup_at (row := row) (i := 0) (by omega) (by omega)
    have az := tup_at (row := row) (i := (row.length : Int) - 1) (by omega) (by omega)
    rw [show ((row.length : Int) - 1).toNat = row.length - 1 by omega] at az
    walk_at "w"
    refine ⟨⟨_, _, rfl, rfl, a0⟩, ?_⟩
    rw [show fIx (tupI row) (.int 0) = .int (row.getD 0 0) from ix_at a0]
    walk_at "w"
    refine ⟨_, _, _, rfl, rfl, aS, ?_⟩
    walk_at "w"
    refine ⟨⟨rfl, rfl, fl_ints s⟩, _, rfl, ?_⟩
    have es : in1 (.int (row.getD 0 0)) (seqD (.lst (s.map D.int))) = decide (row.getD 0 0 ∈ s) := in1_ints _ s
    rw [show stD (some (s, e)) = .lst (s.map D.int) from rfl, es]
    by_cases hs : row.getD 0 0 ∈ s
    · refine ite_f (by rw [decide_eq_true hs]; rfl) ?_
      walk_at "w"
      show loopM _ _ _ (rangeD 0 ((row.length : Int) - 1).toNat) _ _
      rw [show ((row.length : Int) - 1).toNat = row.length - 1 by omega]
      refine loop _ (row.length - 1) (by omega) _ _ (fun x4 hall => ?_) (fun i hi hno => ?_)
      · walk_at "w"
        refine ⟨⟨_, _, rfl, rfl, az⟩, ?_⟩
        rw [show fIx (tupI row) (iD (fun i j => i - j) (.int (row.length : Nat)) (.int 1)) = .int (row.getD (row.length - 1) 0) from ix_at az]
        walk_at "w"
        refine ⟨_, _, _, rfl, rfl, aE, ?_⟩
        walk_at "w"
        refine ⟨⟨rfl, rfl, fl_ints e⟩, _, rfl, ?_⟩
        have ee : in1 (.int (row.getD (row.length - 1) 0)) (seqD (.lst (e.map D.int))) = decide (row.getD (row.length - 1) 0 ∈ e) := in1_ints _ e
        rw [show enD (some (s, e)) = .lst (e.map D.int) from rfl, ee]
        by_cases he : row.getD (row.length - 1) 0 ∈ e
        · refine ite_f (by rw [decide_eq_true he]; rfl) ?_
          walk_at "w"
          refine q _ (Eq.symm ((okR_iff hne).mpr ⟨decide_eq_true hs, fun i hi => ?_, decide_eq_true he⟩))
          have := hall i (by omega)
          rwa [Nat.mod_eq_of_lt hi] at this
        · refine ite_t (by rw [decide_eq_false he]; rfl) ?_
          walk_at "w"
          refine q _ (Eq.symm (Bool.eq_false_iff.mpr fun z => he ?_))
          exact of_decide_eq_true ((okR_iff hne).mp z).2.2
      · refine q _ (Eq.symm (Bool.eq_false_iff.mpr fun z => hno ?_))
        rw [Nat.mod_eq_of_lt (show i + 1 < row.length by omega)]
        exact ((okR_iff hne).mp z).2.1 i (by omega)
    · refine ite_t (by rw [decide_eq_false hs]; rfl) ?_
      walk_at "w"
      refine q _ (Eq.symm (Bool.eq_false_iff.mpr fun z => hs ?_))
      exact of_decide_eq_true ((okR_iff hne).mp z).1
end
end RW
namespace RW
open PySem PySem.Spec PyProof.Rows L2 SrtO
variable [Tbl]
local macro_rules | `(tactic| walk_at "sd") => `(tactic| first | exact True.intro | exact rfl | exact cEq_int _ _ | exact Nat.zero_le _ | (simp only [List.length_cons, List.length_nil]; decide) | (show cEq _ _; exact ⟨_, _, rfl, rfl, rfl, rfl⟩) | (show (_ ≤ _) ∧ _; (try dsimp only); omega) | (show _ ∈ errsAll; decide) | (show _ ∈ ownAll; decide) | exact cEq_lit _ _ | exact ⟨by decide, by decide⟩ | (show (_ : Int) < _; (try dsimp only); omega) | (show (0 : Nat) < 1000; decide) | (show (1 : Nat) < 1000; decide) | (show (2 : Nat) < 1000; decide) | (show (3 : Nat) < 1000; decide) | (show (4 : Nat) < 1000; decide) | (show (5 : Nat) < 1000; decide) | fail)
local macro_rules | `(tactic| walk_at "w1") => `(tactic| first | refine ⟨_, rfl, ?_⟩ | refine ⟨_, _, rfl, rfl, ?_⟩ | refine ⟨by walk_at "sd", ?_⟩ | refine ite_t rfl ?_ | refine ite_f rfl ?_ | refine ite_t (eqD_str _) ?_ | refine ite_f (congrArg (!·) (eqD_str _)) ?_ | refine ite_t (eqD_intS _) ?_ | refine ite_f (congrArg (!·) (eqD_intS _)) ?_ | (with_reducible refine mCl.mk ?_) | refine ⟨_, _, rfl, by decide, ?_⟩ | refine ⟨_, _, _, rfl, by decide, rfl, ?_⟩ | refine ⟨_, _, rfl, ?_⟩ | fail)
local macro_rules | `(tactic| walk_at "w") => `(tactic| repeat ((fail_if_success (with_reducible show loopM _ _ _ _ _ _)); (fail_if_success (with_reducible show lcM _ _ _ _ _ _ _ _ _)); walk_at "w1"))
local macro_rules | `(tactic| walk_at "u") => `(tactic| repeat ((fail_if_success (with_reducible show loopM _ _ _ _ _ _)); (fail_if_success (with_reducible show lcM _ _ _ _ _ _ _ _ _)); (fail_if_success (with_reducible show sSeq (sIf _ _ _) _ _ _ _)); (first | (with_reducible refine nx_go ?_) | walk_at "w1")))
abbrev Tab := List ((Int × Int) × Int)
def tabD (T : Tab) : D := .dic (T.map fun p => (pairD p.1, .int p.2))
def keyP (k : Int × Int) : List Key := [.inl k.1, .inl k.2]
def toKW (p : (Int × Int) × Int) : List Key × W := (keyP p.1, .d (.int p.2))
theorem keyP_inj {a b : Int × Int} : keyP a = keyP b ↔ a = b := by
  obtain ⟨a1, a2⟩ := a
  obtain ⟨b1, b2⟩ := b
  unfold keyP
  simp
theorem valW_kw (L : Tab) (k : Int × Int) : valW (L.map toKW) (keyP k) = (getA L k).map fun i => W.d (.int i) := by
  unfold valW getA
  induction L with
  | nil => rfl
  | cons p L ih =>
    rw [List.map_cons, List.find?_cons, List.find?_cons]
    have e : decide ((toKW p).1 = keyP k) = decide (p.1 = k) := by
      rw [decide_eq_decide]
      exact keyP_inj
    rw [e]
    cases decide (p.1 = k) with
    | true => rfl
    | false => exact ih
theorem putW_kw (L : Tab) (k : Int × Int) (v : Int) : putDW (L.map toKW) (keyP k) (.d (.int v)) = (putA L k v).map toKW := by
  unfold putDW putA
  have e : ((L.map toKW).any fun p => decide (p.1 = keyP k)) = L.any fun p => decide (p.1 = k) := by
    rw [List.any_map]
    refine congrArg (fun f => L.any f) (funext fun p => ?_)
    show decide ((toKW p).1 = keyP k) = decide (p.1 = k)
    rw [decide_eq_decide]
    exact keyP_inj
  rw [e]
  split
  · rw [List.map_map, List.map_map]
    refine List.map_congr_left fun p _ => ?_
    show (if (toKW p).1 = keyP k then ((toKW p).1, W.d (.int v)) else toKW p) = toKW (if p.1 = k then (p.1, v) else p)
    by_cases h : p.1 = k
    · rw [if_pos (show (toKW p).1 = keyP k from keyP_inj.mpr h), if_pos h]
      rfl
    · rw [if_neg (show ¬ (toKW p).1 = keyP k from fun z => h (keyP_inj.mp z)), if_neg h]
  · rw [List.map_append]
    rfl
theorem look_tab {T : Tab} {k : Int × Int} {c : Int} (h : getA T k = some c) : dAt (T.map fun p => (pairD p.1, D.int p.2)) (pairD k) (some (.int c)) := by
  refine .inr ⟨keyP k, rfl, ?_⟩
  unfold getA at h
  unfold dLookT
  induction T with
  | nil => cases h
  | cons p T ih =>
    rw [List.find?_cons] at h
    rw [List.map_cons, List.find?_cons]
    have e : keyEqT (pairD p.1) (keyP k) = decide (p.1 = k) := by
      show keyEqs ((keyP p.1).map kD) (keyP k) = _
      rw [keyEqs_kD, decide_eq_decide]
      exact keyP_inj
    show Option.map _ (match keyEqT (pairD p.1) (keyP k) with | true => _ | false => _) = _
    rw [e]
    cases hd : decide (p.1 = k) with
    | true =>
      rw [hd] at h
      cases h
      rfl
    | false =>
      rw [hd] at h
      exact ih h
theorem frz_tab (L : Tab) : frzO (.dT (L.map toKW)) = some (tabD L) := by
  have e : (L.map toKW).map (·.2) = (L.map fun p => D.int p.2).map W.d := by
    rw [List.map_map, List.map_map]
    rfl
  show (datas ((L.map toKW).map (·.2))).map (fun xs => D.dic (zipT (L.map toKW) xs)) = _
  rw [e, datas_map]
  show some (D.dic (zipT (L.map toKW) (L.map fun p => D.int p.2))) = _
  unfold tabD
  refine congrArg (fun x => some (D.dic x)) ?_
  induction L with
  | nil => rfl
  | cons p L ih =>
    have ih := ih (by rw [List.map_map, List.map_map]; rfl)
    unfold zipT at ih ⊢
    rw [List.map_cons, List.map_cons, List.map_cons, List.zipWith_cons_cons, ih]
    rfl
theorem tab_len {n : Nat} {L : Tab} (nd : (L.map (·.1)).Nodup) (rg : ∀ q : Int × Int, q ∈ L.map (·.1) → (0 ≤ q.1 ∧ q.1 < (n : Int)) ∧ 0 ≤ q.2 ∧ q.2 < (n : Int)) : L.length ≤ n * n := by
  have := GoodP.len (n := n) (P := L.map (·.1)) ⟨nd, fun p hp => rg p hp⟩
  rwa [List.length_map] at this
section
variable {Q E : D → Prop}
theorem p_lways {n : Nat} {P : List (Int × Int)} {st en : D} (k : Nat) (hk : k ≤ 1000) (n2 : n ≤ 12) (G : GoodP n P) (q : Q (tabD (waysA P n k))) : m__law_ways [skD n P st en, .int ((k + 1 : Nat) : Int)] Q E := by
  have aL : dAt [(D.str "labels", D.int n), (.str "pairs", .lst (P.map pairD)), (.str "starts", st), (.str "ends", en)] (.str "labels") (some (.int n)) := .inl ⟨.inr "labels", rfl, rfl⟩
  have aP : dAt [(D.str "labels", D.int n), (.str "pairs", .lst (P.map pairD)), (.str "starts", st), (.str "ends", en)] (.str "pairs") (some (.lst (P.map pairD))) := .inl ⟨.inr "pairs", rfl, rfl⟩
  refine mFc.mk ?_
  walk_at "w"
  refine ⟨_, _, _, rfl, rfl, aL, ?_⟩
  walk_at "w"
  rw [Int.toNat_natCast, plc_eq, show plcI n = rg0 n from rfl]
  refine lc_ev trivial D.int (fun v => .tup [pairD (v, v), .int 1]) (rg0 n) (by rw [rg0_len]; unfold line; omega) (fun v hv => ⟨_, rfl, fun Q' q' => ?_⟩) ?_
  · walk_at "w"
    exact q'
  refine ⟨(rg0 n).map fun l => (keyP (l, l), .int 1), by rw [List.map_map]; rfl, ?_, ?_⟩
  · have := ways_nodup P n 0
    unfold waysA at this
    rw [List.map_map] at this ⊢
    rw [List.nodup_iff_pairwise_ne, List.pairwise_map] at this ⊢
    exact this.imp fun h e => h (keyP_inj.mp e)
  have e0 : D.dic (((rg0 n).map fun l => (keyP (l, l), D.int 1)).map fun p => (D.tup (p.1.map kD), p.2)) = tabD (waysA P n 0) := by
    unfold waysA tabD
    rw [List.map_map, List.map_map]
    rfl
  rw [e0]
  walk_at "w"
  show loopM _ _ _ (rangeD 0 (((k + 1 : Nat) : Int) - 1).toNat) _ _
  rw [show (((k + 1 : Nat) : Int) - 1).toNat = k by omega]
  refine loop_rg k (fun j env S => ∃ x3 x4 x5 x6 x7 x8 x9 : Option W, env = [some (.d (skD n P st en)), some (.d (.int ((k + 1 : Nat) : Int))), some (.d (tabD (waysA P n j))), x3, x4, x5, x6, x7, x8, x9]) (fun _ => trivial) ?_ ?_ _ _ ⟨_, _, _, _, _, _, _, rfl⟩
  · rintro j hj env S ⟨x3, x4, x5, x6, x7, x8, x9, rfl⟩ K' kn kc kr kb ke
    have nd := ways_nodup P n j
    have rg := ways_keys G.2 j
    have tl := tab_len nd rg
    have n144 : n * n ≤ 144 := Nat.mul_le_mul n2 n2
    generalize hT : waysA P n j = T at nd rg tl ⊢
    walk_at "w"
    have ek : ((T.map fun p => (pairD p.1, D.int p.2)).map (·.1)) = T.map fun p => pairD p.1 := by rw [List.map_map]; rfl
    rw [ek]
    refine loop_gen (fun p => pairD p.1) (fun done env S2 => (∃ x5 x6 x7 x8 x9 : Option W, env = [some (.d (skD n P st en)), some (.d (.int ((k + 1 : Nat) : Int))), some (.d (tabD T)), some (.d (.int j)), some (.ref S.length), x5, x6, x7, x8, x9]) ∧ S2 = S ++ [.dT ((done.foldl (stepT P) []).map toKW)]) (fun _ => trivial) T [] ?_ ?_ _ _ ⟨⟨_, _, _, _, _, rfl⟩, rfl⟩
    · rintro done p rest he env S2 ⟨⟨x5, x6, x7, x8, x9, rfl⟩, rfl⟩ K2 n2' c2 r2 b2 e2
      rw [List.nil_append] at he
      have hp : p ∈ T := by rw [he]; simp
      have gp : getA T p.1 = some p.2 := get_mem nd hp
      have ndD : ((done.foldl (stepT P) []).map (·.1)).Nodup := stepT_nodup P done (by simp)
      have rgD : ∀ q : Int × Int, q ∈ (done.foldl (stepT P) []).map (·.1) → (0 ≤ q.1 ∧ q.1 < (n : Int)) ∧ 0 ≤ q.2 ∧ q.2 < (n : Int) := stepT_keys (R := fun q => (0 ≤ q.1 ∧ q.1 < (n : Int)) ∧ 0 ≤ q.2 ∧ q.2 < (n : Int)) P done (fun p' hp' x hx => ⟨(rg p'.1 (List.mem_map.mpr ⟨p', by rw [he]; simp [hp'], rfl⟩)).1, (G.2 x hx).2⟩) (fun q hq => by simp at hq)
      generalize hL : done.foldl (stepT P) [] = L at ndD rgD ⊢
      walk_at "w"
      refine ⟨_, _, _, rfl, rfl, aP, ?_⟩
      walk_at "w"
      refine loop_gen pairD (fun dn env S2 => (∃ x7 x8 x9 : Option W, env = [some (.d (skD n P st en)), some (.d (.int ((k + 1 : Nat) : Int))), some (.d (tabD T)), some (.d (.int j)), some (.ref S.length), some (.d (.int p.1.1)), some (.d (.int p.1.2)), x7, x8, x9]) ∧ S2 = S ++ [.dT ((dn.foldl (stepP p) L).map toKW)]) (fun _ => trivial) P [] ?_ ?_ _ _ ⟨⟨_, _, _, rfl⟩, rfl⟩
      · rintro dn r rst he2 env S3 ⟨⟨x7, x8, x9, rfl⟩, rfl⟩ K3 n3 c3 r3 b3 e3
        rw [List.nil_append] at he2
        have ndL : ((dn.foldl (stepP p) L).map (·.1)).Nodup := stepP_nodup dn ndD
        have rgL : ∀ q : Int × Int, q ∈ (dn.foldl (stepP p) L).map (·.1) → (0 ≤ q.1 ∧ q.1 < (n : Int)) ∧ 0 ≤ q.2 ∧ q.2 < (n : Int) := stepP_keys (R := fun q => (0 ≤ q.1 ∧ q.1 < (n : Int)) ∧ 0 ≤ q.2 ∧ q.2 < (n : Int)) dn (fun x hx => ⟨(rg p.1 (List.mem_map.mpr ⟨p, hp, rfl⟩)).1, (G.2 x (by rw [he2]; simp [hx])).2⟩) rgD
        have lenL := tab_len ndL rgL
        have enx : (dn ++ [r]).foldl (stepP p) L = stepP p (dn.foldl (stepP p) L) r := by
          rw [List.foldl_append]
          rfl
        generalize hM : dn.foldl (stepP p) L = M at lenL enx ⊢
        walk_at "w"
        by_cases h : r.1 = p.1.2
        · have es : stepP p M r = addA M (p.1.1, r.2) p.2 := if_pos h
          refine ite_t (by rw [eqD_int, h]; simp) ?_
          refine ⟨_, rfl, .inr ⟨S.length, rfl, .inr ⟨_, List.getElem?_concat_length⟩⟩, ?_⟩
          walk_at "w"
          refine ⟨valW (M.map toKW) (keyP (p.1.1, r.2)), .inr (.inr (.inl ⟨S.length, M.map toKW, keyP (p.1.1, r.2), rfl, List.getElem?_concat_length, rfl, rfl⟩)), ?_⟩
          rw [valW_kw, show ((getA M (p.1.1, r.2)).map fun i => W.d (.int i)).getD (.d (.int 0)) = .d (.int ((getA M (p.1.1, r.2)).getD 0)) by cases getA M (p.1.1, r.2) <;> rfl]
          walk_at "w"
          refine ⟨_, _, _, rfl, rfl, look_tab gp, ?_⟩
          walk_at "w"
          refine ⟨_, .inr ⟨S.length, M.map toKW, keyP (p.1.1, r.2), rfl, List.getElem?_concat_length, rfl, by rw [List.length_map]; unfold line; omega, rfl⟩, ?_⟩
          refine n3 _ _ ⟨⟨_, _, _, rfl⟩, ?_⟩
          rw [set_last, enx, es]
          unfold addA
          rw [← putW_kw]
          rfl
        · have es : stepP p M r = M := if_neg h
          refine ite_f (by rw [eqD_int]; simpa using h) ?_
          refine n3 _ _ ⟨⟨_, _, _, rfl⟩, ?_⟩
          rw [enx, es]
      · rintro env S3 ⟨⟨x7, x8, x9, rfl⟩, rfl⟩
        refine n2' _ _ ⟨⟨_, _, _, _, _, rfl⟩, ?_⟩
        rw [List.nil_append, List.foldl_append, hL]
        rfl
    · rintro env S2 ⟨⟨x5, x6, x7, x8, x9, rfl⟩, rfl⟩
      walk_at "w"
      refine ⟨_, _, List.getElem?_concat_length, frz_tab _, ?_⟩
      have ew : T.foldl (stepT P) [] = waysA P n (j + 1) := by rw [← hT]; rfl
      rw [← ew] at kn
      exact kn _ _ ⟨_, _, _, _, _, _, _, rfl⟩
  · rintro env S ⟨x3, x4, x5, x6, x7, x8, x9, rfl⟩
    walk_at "w"
    exact q
def fitB (P : List (Int × Int)) (se : SE) (k : Int × Int) : Bool := begB se k.1 && endB P se k.1 k.2
theorem sum_tab (g : Int × Int → Bool) (T : Tab) : ((T.filter fun p => g p.1).map fun p => p.2).sum = sumA (fun k => if g k = true then 1 else 0) T := by
  unfold sumA
  rw [← sum_ifs]
  refine congrArg List.sum (List.map_congr_left fun p _ => ?_)
  show (if g p.1 = true then p.2 else 0) = p.2 * (if g p.1 = true then 1 else 0)
  split <;> simp
theorem p_lsum {n : Nat} {P : List (Int × Int)} {se : SE} (k : Nat) (hk : k ≤ 1000) (n2 : n ≤ 12) (G : GoodP n P) (q : Q (.int (sumA (fun k => if fitB P se k = true then 1 else 0) (waysA P n k)))) : m__law_sum [skD n P (stD se) (enD se), .int ((k + 1 : Nat) : Int)] Q E := by
  have aP : dAt [(D.str "labels", D.int n), (.str "pairs", .lst (P.map pairD)), (.str "starts", stD se), (.str "ends", enD se)] (.str "pairs") (some (.lst (P.map pairD))) := .inl ⟨.inr "pairs", rfl, rfl⟩
  have aS : dAt [(D.str "labels", D.int n), (.str "pairs", .lst (P.map pairD)), (.str "starts", stD se), (.str "ends", enD se)] (.str "starts") (some (stD se)) := .inl ⟨.inr "starts", rfl, rfl⟩
  have aE : dAt [(D.str "labels", D.int n), (.str "pairs", .lst (P.map pairD)), (.str "starts", stD se), (.str "ends", enD se)] (.str "ends") (some (enD se)) := .inl ⟨.inr "ends", rfl, rfl⟩
  have nd := ways_nodup P n k
  have tl := tab_len nd (ways_keys G.2 k)
  have n144 : n * n ≤ 144 := Nat.mul_le_mul n2 n2
  refine mFc.mk ?_
  walk_at "w"
  refine p_lways k hk n2 G ?_
  generalize waysA P n k = T at nd tl q ⊢
  walk_at "w"
  refine ⟨_, _, _, rfl, rfl, aS, ?_⟩
  have ek : ((T.map fun p => (pairD p.1, D.int p.2)).map (·.1)) = T.map fun p => pairD p.1 := by rw [List.map_map]; rfl
  have fin : ∀ (l : Tab), cNums [.lst (l.map fun p => D.int p.2)] ∧ fSum [.lst (l.map fun p => D.int p.2)] = .int (l.map fun p => p.2).sum := fun l => by
    have := sum_ints _root_.id (l.map fun p => p.2)
    rw [List.map_map, List.map_id] at this
    exact this
  rw [← sum_tab] at q
  have val : ∀ p ∈ T, dAt (T.map fun p => (pairD p.1, D.int p.2)) (pairD p.1) (some (.int p.2)) := fun p hp => look_tab (get_mem nd hp)
  have a0 : ∀ p : (Int × Int) × Int, L2.atI [D.int p.1.1, .int p.1.2] 0 = some (.int p.1.1) := fun p => rfl
  have a1 : ∀ p : (Int × Int) × Int, L2.atI [D.int p.1.1, .int p.1.2] 1 = some (.int p.1.2) := fun p => rfl
  rcases se with _ | ⟨s, e⟩
  · walk_at "w"
    rw [ek]
    show lcM _ _ _ _ _ (T.map fun p => pairD p.1) _ _ _
    refine lc_gen (α := (Int × Int) × Int) trivial (fun p => pairD p.1) (fun p => fitB P none p.1) (fun p => .int p.2) T (by unfold line; omega) (fun p hp => ⟨_, rfl, fun Q' q' => ?_, fun _ Q' q' => ?_⟩) ?_
    · walk_at "w"
      refine ⟨⟨_, _, rfl, rfl, a1 p⟩, ?_⟩
      rw [show fIx (pairD p.1) (.int 1) = .int p.1.2 from ix_at (a1 p)]
      walk_at "w"
      refine ⟨⟨_, _, rfl, rfl, a0 p⟩, ?_⟩
      rw [show fIx (pairD p.1) (.int 0) = .int p.1.1 from ix_at (a0 p)]
      walk_at "w"
      refine ⟨_, _, _, rfl, rfl, aP, ?_⟩
      refine ⟨pairD (p.1.2, p.1.1), .lst (P.map pairD), rfl, rfl, cIn_pairs _ _, _, rfl, ?_⟩
      rw [in_pairs]
      exact q'
    · walk_at "w"
      refine ⟨_, _, _, rfl, rfl, val p hp, ?_⟩
      exact q'
    · walk_at "w"
      refine ⟨(fin _).1, ?_⟩
      rw [(fin _).2]
      walk_at "w"
      exact q
  · walk_at "w"
    rw [ek]
    show lcM _ _ _ _ _ (T.map fun p => pairD p.1) _ _ _
    refine lc_gen (α := (Int × Int) × Int) trivial (fun p => pairD p.1) (fun p => fitB P (some (s, e)) p.1) (fun p => .int p.2) T (by unfold line; omega) (fun p hp => ⟨_, rfl, fun Q' q' => ?_, fun _ Q' q' => ?_⟩) ?_
    · walk_at "w"
      refine ⟨⟨_, _, rfl, rfl, a0 p⟩, ?_⟩
      rw [show fIx (pairD p.1) (.int 0) = .int p.1.1 from ix_at (a0 p)]
      walk_at "w"
      refine ⟨_, _, _, rfl, rfl, aS, ?_⟩
      walk_at "w"
      refine ⟨⟨rfl, rfl, fl_ints s⟩, _, rfl, ?_⟩
      have es : in1 (.int p.1.1) (seqD (.lst (s.map D.int))) = decide (p.1.1 ∈ s) := in1_ints _ s
      rw [show stD (some (s, e)) = .lst (s.map D.int) from rfl, es]
      have q2 : Q' (decide (p.1.1 ∈ s) && decide (p.1.2 ∈ e)) _ := q'
      cases hs : decide (p.1.1 ∈ s) with
      | false =>
        rw [hs] at q2
        exact ite_f rfl q2
      | true =>
        rw [hs] at q2
        refine ite_t rfl ?_
        walk_at "w"
        refine ⟨⟨_, _, rfl, rfl, a1 p⟩, ?_⟩
        rw [show fIx (pairD p.1) (.int 1) = .int p.1.2 from ix_at (a1 p)]
        walk_at "w"
        refine ⟨_, _, _, rfl, rfl, aE, ?_⟩
        walk_at "w"
        refine ⟨⟨rfl, rfl, fl_ints e⟩, _, rfl, ?_⟩
        have ee : in1 (.int p.1.2) (seqD (.lst (e.map D.int))) = decide (p.1.2 ∈ e) := in1_ints _ e
        rw [show enD (some (s, e)) = .lst (e.map D.int) from rfl, ee]
        exact q2
    · walk_at "w"
      refine ⟨_, _, _, rfl, rfl, val p hp, ?_⟩
      exact q'
    · walk_at "w"
      refine ⟨(fin _).1, ?_⟩
      rw [(fin _).2]
      walk_at "w"
      exact q
end
end RW
namespace RW
open PySem PySem.Spec PyProof.Rows L2 SrtO
variable [Tbl]
theorem ahead_mem {P : List (Int × Int)} {v l : Int} : l ∈ aheadI (srtP P) v ↔ (l, v) ∈ P := by
  unfold aheadI
  constructor
  · intro h
    obtain ⟨p, hp, rfl⟩ := List.mem_map.mp h
    obtain ⟨h1, h2⟩ := List.mem_filter.mp hp
    have e : p.2 = v := of_decide_eq_true h2
    rw [← e]
    exact srtP_mem.mp h1
  · intro h
    exact List.mem_map.mpr ⟨(l, v), List.mem_filter.mpr ⟨srtP_mem.mpr h, by simp⟩, rfl⟩
theorem ends_eq (P : List (Int × Int)) (se : SE) : endE P se = endB P se := by
  funext v l
  rcases se with _ | ⟨s, e⟩
  · show decide (l ∈ aheadI (srtP P) v) = decide ((l, v) ∈ P)
    rw [decide_eq_decide]
    exact ahead_mem
  · show decide (l ∈ srtI e) = decide (l ∈ e)
    rw [decide_eq_decide]
    exact srtI_mem
theorem frm_eq {n : Nat} {se : SE} (h : SEok n se) : frm n se = (rg0 n).filter (begB se) := by
  rcases se with _ | ⟨s, e⟩
  · exact (List.filter_eq_self.mpr fun _ _ => rfl).symm
  · exact bs_rg h.1 h.2.2.1
section
variable {n : Nat} {P : List (Int × Int)} {se : SE}
theorem right_len (G : GoodP n P) (h : SEok n se) (k : Nat) : (((rowsA n (k + 1)).filter (okR P se)).length : Int) = manyI n P se k := by
  unfold manyI
  rw [rows_eq, ends_eq, frm_eq h]
  exact rows_count (fun v _ _ => beh_rg G v) k
theorem right_head (G : GoodP n P) (h : SEok n se) (k : Nat) : ((rowsA n (k + 1)).filter (okR P se)).head? = walkE (behI (srtP P)) (endE P se) k (frm n se) := by
  rw [rows_eq, ends_eq, frm_eq h]
  exact rows_head (fun v _ _ => beh_rg G v) k
theorem sum_many (G : GoodP n P) (h : SEok n se) (k : Nat) : sumA (fun k => if fitB P se k = true then 1 else 0) (waysA P n k) = manyI n P se k := by
  have hb : ∀ v, (behP P v).Perm (behI (srtP P) v) := fun v => (((List.mergeSort_perm P _).symm).filter _).map _
  have := ways_sum P n hb (begB se) (endB P se) k 0
  unfold manyI
  rw [ends_eq, frm_eq h]
  rw [Nat.add_zero] at this
  rw [← this]
  refine congrArg (fun f => sumA f (waysA P n k)) (funext fun q => ?_)
  unfold fitB cntW
  cases begB se q.1 <;> cases endB P se q.1 q.2 <;> rfl
theorem many_nn (k : Nat) : ∀ x ∈ (frm n se).map fun v => cntW (behI (srtP P)) (endE P se v) k v, 0 ≤ x := by
  intro x hx
  obtain ⟨v, _, rfl⟩ := List.mem_map.mp hx
  exact cnt_nn k v
theorem none_iff (k : Nat) : (walkE (behI (srtP P)) (endE P se) k (frm n se)).isNone = decide (manyI n P se k = 0) := by
  unfold manyI walkE
  have key : 0 < ((frm n se).map fun v => cntW (behI (srtP P)) (endE P se v) k v).sum ↔ ∃ v ∈ frm n se, leadR (behI (srtP P)) (endE P se v) k v = true := by
    rw [sum_pos _ fun x _ => cnt_nn k x]
    constructor
    · rintro ⟨v, hv, h⟩
      exact ⟨v, hv, by rw [← cnt_pos]; exact decide_eq_true h⟩
    · rintro ⟨v, hv, h⟩
      rw [← cnt_pos] at h
      exact ⟨v, hv, of_decide_eq_true h⟩
  have nn := sum_nn (many_nn (n := n) (P := P) (se := se) k)
  cases hf : (frm n se).filter (fun v => leadR (behI (srtP P)) (endE P se v) k v) with
  | nil =>
    show true = _
    rw [eq_comm, decide_eq_true_eq]
    have : ¬ 0 < ((frm n se).map fun v => cntW (behI (srtP P)) (endE P se v) k v).sum := fun z => by
      obtain ⟨v, hv, hl⟩ := key.mp z
      exact List.filter_eq_nil_iff.mp hf v hv hl
    omega
  | cons v vs =>
    show false = _
    rw [eq_comm, decide_eq_false_iff_not]
    have hv : v ∈ (frm n se).filter (fun v => leadR (behI (srtP P)) (endE P se v) k v) := by rw [hf]; exact List.mem_cons_self
    obtain ⟨h1, h2⟩ := List.mem_filter.mp hv
    have := key.mpr ⟨v, h1, h2⟩
    omega
theorem told_right (G : GoodP n P) (h : SEok n se) (k : Nat) {w : List Int} (hw : walkE (behI (srtP P)) (endE P se) k (frm n se) = some w) : w.length = k + 1 ∧ okR P se w = true ∧ ∀ x ∈ w, 0 ≤ x ∧ x < n := by
  unfold walkE at hw
  cases hf : (frm n se).filter (fun v => leadR (behI (srtP P)) (endE P se v) k v) with
  | nil => rw [hf] at hw; cases hw
  | cons v vs =>
    rw [hf] at hw
    cases hw
    have hv : v ∈ (frm n se).filter (fun v => leadR (behI (srtP P)) (endE P se v) k v) := by rw [hf]; exact List.mem_cons_self
    obtain ⟨h1, h2⟩ := List.mem_filter.mp hv
    obtain ⟨g1, g2⟩ := greedy_ok (E := endE P se v) (pr := fun a b => decide ((a, b) ∈ P)) (beh := behI (srtP P)) (fun a b hab => decide_eq_true (beh_mem.mp hab)) k v h2
    refine ⟨congrArg (· + 1) g1, ?_, fun x hx => ?_⟩
    · unfold okR okE
      rw [← ends_eq]
      show (begB se v && okW (endE P se v) _ _) = true
      rw [g2, Bool.and_true]
      rw [frm_eq h] at h1
      exact (List.mem_filter.mp h1).2
    · rcases List.mem_cons.mp hx with rfl | z
      · exact frm_in h x h1
      · exact greedy_rg (fun v u hu => (G.2 _ (beh_mem.mp hu)).2) k v x z
theorem many_le (G : GoodP n P) (h : SEok n se) (n4 : n ≤ 4) (k : Nat) (hk : k ≤ 60) : 0 ≤ manyI n P se k ∧ (manyI n P se k).natAbs.log2 < 1920 := by
  have nn := sum_nn (many_nn (n := n) (P := P) (se := se) k)
  have bl : ∀ l, (behI (srtP P) l).length ≤ 4 := fun l => by
    rw [beh_rg G]
    refine Nat.le_trans (List.length_filter_le _ _) ?_
    rw [rg0_len]
    exact n4
  have le : ∀ l : List Int, (l.map fun v => cntW (behI (srtP P)) (endE P se v) k v).sum ≤ ((l.length * 4 ^ k : Nat) : Int) := by
    intro l
    induction l with
    | nil => simp
    | cons v l ih =>
      rw [List.map_cons, List.sum_cons, List.length_cons, Nat.succ_mul]
      have := cnt_le (E := endE P se v) bl k v
      omega
  have fl := frm_len h
  have h1 : manyI n P se k ≤ ((4 * 4 ^ k : Nat) : Int) := Int.le_trans (le (frm n se)) (Int.ofNat_le.mpr (Nat.mul_le_mul_right _ (by omega)))
  have h2 : 4 * 4 ^ k ≤ 4 * 4 ^ 60 := Nat.mul_le_mul_left _ (Nat.pow_le_pow_right (by decide) hk)
  refine ⟨nn, ?_⟩
  have h0 : 0 ≤ manyI n P se k := nn
  have h3 : (manyI n P se k).natAbs ≤ 4 * 4 ^ 60 := by omega
  by_cases hz : (manyI n P se k).natAbs = 0
  · rw [hz]
    decide
  · rw [Nat.log2_lt hz]
    refine Nat.lt_of_le_of_lt h3 ?_
    have e : (4 : Nat) * 4 ^ 60 = 2 ^ 122 := by decide
    rw [e]
    exact Nat.pow_lt_pow_right (by decide) (by decide)
end
end RW
namespace RW
open PySem PySem.Spec PyProof.Rows L2
variable [Tbl]
theorem rv_ints {C : Cxt} {g : Gh} {B : Addr → Prop} {H : Hp} {K : PySem.W.Frag} (hK : C.K = K) {a : Addr} {ns : List Int} (h : SqL K H a (ns.map V.int)) (nb : ∀ xs, H a = some (.lst xs) → ¬ B a) : RV C g B H (.lst (ns.map D.int)) (.ref a) := by
  subst hK
  refine .lst ?_ (RVs.ints ns)
  rcases h with (h | h) | h
  · exact .inl ⟨h, nb _ h⟩
  · exact .inr (.inl h)
  · exact .inr (.inr h)
/-- law(script): true, whatever the script -/
def spLaw (K : PySem.W.Frag) : Sp := fun vs H Q _ => ∃ (a : Addr) (ns : List Int), vs = [.ref a] ∧ SqL K H a (ns.map V.int) ∧ ns.length ≤ 63 ∧ LamX.Tabs Tbl.tabs H ∧ ∀ H', Q (.bl true) H'
/-- the law's mirror answers true -/
def LawTrue : Prop := ∀ (lm : Nat → Addr → Addr → HO) (ns : List Int), ns.length ≤ 63 → b_law lm ⟨fun _ _ => False, fun x => x = .bl true, fun _ _ => False, fun _ _ => False, fun _ => False⟩ ((startM 16 [.lst (ns.map D.int)]).set 1 (some (.d .drw))) []
section
variable {P : Program} {w : World} {K : PySem.W.Frag} {mg : Str → Option Value} {base : Heap}
theorem ok_law (LT : LawTrue) (T : Txt P K mg) {f c Pt : Addr} {oc kV doc pm ct : Value} {od an : Option Addr} {osl : Array (Option Value)} (lk : K.lookup f = some ⟨oc, od, .func (PySem.W.fnOf "law" "law" (defArgs s_law) (defBody s_law) (defScope s_law) .none kV doc pm an (.ref c) ct), osl⟩) (hcd : PySem.W.codeIn K (.ref c) "law" = true)
    (TB : LamX.TabB base mg c Pt) (hT : Tbl.tabs = [(Pt, qLam)]) : FnG P w K mg base (L2.CX P w) 12 f (PySem.W.fnOf "law" "law" (defArgs s_law) (defBody s_law) (defScope s_law) .none kV doc pm an (.ref c) ct) ["script"] (spLaw K) := by
  refine fnG_of lk hcd sc_law (fun vs H Q E ⟨a, ns, e, _⟩ => by rw [e]; rfl) fun A outer s H vs Q E hr hgd h => ?_
  obtain ⟨a, ns, rfl, hS, hl, hTabs, k⟩ := h
  obtain ⟨fb, fdb, Fb, gb, bb⟩ := T.f__law_begun
  have GB := ok_begun (P := P) (w := w) (base := base) Fb T.n_abs
  have hTab : (Pt, qLam) ∈ Tbl.tabs := by rw [hT]; exact List.mem_cons_self
  have hTabU : ∀ p ∈ Tbl.tabs, p.1 = Pt → p.2 = qLam := fun p hp _ => by
    rw [hT] at hp
    rw [List.mem_singleton.mp hp]
  obtain ⟨fc, fdc, Fc, gc, bc⟩ := T.f__law_caught
  obtain ⟨oc2, od2, kV2, doc2, pm2, an2, cdv2, ct2, osl2, rfl, lk2, hcd2⟩ := Fc.ex
  obtain ⟨Cr, gCr, hCr⟩ := T.top
  have hcode : (cxD P w K mg base n_law "law" s_law f (.ref c) A outer s H E).env.code = .ref c := rfl
  let lm := lmOf (cxD P w K mg base n_law "law" s_law f (.ref c) A outer s H E)
  have caught : ∀ {e : Expr} {m : MX} {p pos : Pos}, starEach [e] (cxD P w K mg base n_law "law" s_law f (.ref c) A outer s H E).env = (false, eval e (cxD P w K mg base n_law "law" s_law f (.ref c) A outer s H E).env) :: starEach [] (cxD P w K mg base n_law "law" s_law f (.ref c) A outer s H E).env →
      ME E (cxD P w K mg base n_law "law" s_law f (.ref c) A outer s H E) e m → ME E (cxD P w K mg base n_law "law" s_law f (.ref c) A outer s H E) (.Call (.Name "_law_caught" p) [e] [] pos) (mCaught errsAll lm qLam mbs_law m) := fun hst he =>
    me_caught (k := 9) gc Fc.kp lk2 hcd2 bc sc_caught rfl gCr (by decide) rfl rfl rfl hr hgd hCr he (fun n mb h => lam_ok_law (w := w) (base := base) T n mb h) rfl hst rfl
  have J : MSs E (cxD P w K mg base n_law "law" s_law f (.ref c) A outer s H E) ((defBody s_law).drop 1) (b_law lm) := (mss_cons (ms_for PassesOwn.leaving rfl (mi_range1 T.n_range (ma_cons (me_bin o_add me_int (me_callB (b_min2 rfl) T.n_min boot_min (ma_cons (me_callB b_len T.n_len boot_len (ma_cons (me_var (i := 0)) ma_nil)) (ma_cons me_int ma_nil)))) ma_nil)) (mg_name (is := [2]) (i := 2) sc_law.nd) (mss_cons (ms_set (i := 3) sc_law.nd (me_callF (ok__law_sketch T) (takes_of rfl rfl rfl rfl) hgd (hr.mono (by decide)) (ma_cons (me_var (i := 1)) (ma_cons me_int ma_nil)))) (mss_cons (ms_set (i := 4) sc_law.nd (me_callF (ok__law_made T) (takes_of rfl rfl rfl rfl) hgd (hr.mono (by decide)) (ma_cons (me_var (i := 3)) ma_nil))) (mss_cons (ms_for PassesOwn.leaving rfl (mi_items (me_lst (ma_cons me_int (ma_cons me_int (ma_cons me_int (ma_cons (me_bin o_add me_int (me_callF (ok__law_take T) (takes_of rfl rfl rfl rfl) hgd (hr.mono (by decide)) (ma_cons (me_var (i := 1)) (ma_cons me_int ma_nil)))) ma_nil)))))) (mg_name (is := [5]) (i := 5) sc_law.nd) (mss_cons (ms_setLc (i := 6) rfl sc_law.nd (lcj_name (own := [("row", 15)]) (mi_items (me_callF (ok__law_rows T) (takes_of rfl rfl rfl rfl) hgd (hr.mono (by decide)) (ma_cons (me_dget (un1 hr) (me_var (i := 3)) me_str) (ma_cons (me_var (i := 5)) ma_nil)))) (blkOk_by (by rfl)) sc_law.nd (fun _ _ _ _ _ => (mts_one (mt_cmp o_isN (me_callF (ok__law_break T) LamX.takes0 hgd (hr.mono (by decide)) (ma_cons (me_var (i := 3)) (ma_cons (me_var (i := 15)) ma_nil))) me_non))) (fun _ _ _ _ _ => (me_var (i := 15)))) rfl) (mss_cons (ms_if (MWJ.t (mw_or (mt_cmp (o_ne hr.units) (me_callB (b_reprI hgd (un65 hr)) T.n_repr boot_repr (ma_cons (me_callF (ok_how_many T) (takes_of rfl rfl rfl rfl) hgd (hr.mono (by decide)) (ma_cons (me_var (i := 4)) (ma_cons (me_var (i := 5)) ma_nil))) ma_nil)) (me_callB (b_reprI hgd (un65 hr)) T.n_repr boot_repr (ma_cons (me_callB b_len T.n_len boot_len (ma_cons (me_var (i := 6)) ma_nil)) ma_nil))) (mw_or1 (mt_cmp (o_ne hr.units) (me_callKF (ok_how_many T) (kw_how_many_size_problem) (takes_of rfl rfl rfl rfl) hgd (hr.mono (by decide)) (mk_cons (me_var (i := 5)) (mk_cons (me_var (i := 4)) mk_nil))) (me_callB b_len T.n_len boot_len (ma_cons (me_var (i := 6)) ma_nil)))))) (mss_one (ms_ret me_bl)) mss_nil) (mss_cons (ms_set (i := 7) sc_law.nd (me_if (mt_cmp (o_ne hr.units) (me_var (i := 6)) (me_lst ma_nil)) (me_ix (me_var (i := 6)) me_int) me_non)) (mss_one (ms_if (MWJ.t (mw_or (mt_cmp (o_ne hr.units) (me_callB (b_reprI hgd (un65 hr)) T.n_repr boot_repr (ma_cons (me_callF (ok_some_labelling T) (takes_of rfl rfl rfl rfl) hgd (hr.mono (by decide)) (ma_cons (me_var (i := 4)) (ma_cons (me_var (i := 5)) ma_nil))) ma_nil)) (me_callB (b_reprI hgd (un65 hr)) T.n_repr boot_repr (ma_cons (me_var (i := 7)) ma_nil))) (mw_or1 (mt_cmp (o_ne hr.units) (me_callKF (ok_some_labelling T) (kw_some_labelling_size_problem) (takes_of rfl rfl rfl rfl) hgd (hr.mono (by decide)) (mk_cons (me_var (i := 5)) (mk_cons (me_var (i := 4)) mk_nil))) (me_var (i := 7)))))) (mss_one (ms_ret me_bl)) mss_nil)))))) (mss_cons (ms_set (i := 8) sc_law.nd (me_bin o_add me_int (me_callF (ok__law_take T) (takes_of rfl rfl rfl rfl) hgd (hr.mono (by decide)) (ma_cons (me_var (i := 1)) (ma_cons me_int ma_nil))))) (mss_cons (ms_set (i := 9) sc_law.nd (me_callF (ok__law_sum T) (takes_of rfl rfl rfl rfl) hgd (hr.mono (by decide)) (ma_cons (me_var (i := 3)) (ma_cons (me_var (i := 8)) ma_nil)))) (mss_cons (ms_set (i := 10) sc_law.nd (me_callF (ok_some_labelling T) (takes_of rfl rfl rfl rfl) hgd (hr.mono (by decide)) (ma_cons (me_var (i := 4)) (ma_cons (me_var (i := 8)) ma_nil)))) (mss_cons (ms_if (MWJ.t (mw_or (mt_cmp (o_ne hr.units) (me_callB (b_reprI hgd (un65 hr)) T.n_repr boot_repr (ma_cons (me_callF (ok_how_many T) (takes_of rfl rfl rfl rfl) hgd (hr.mono (by decide)) (ma_cons (me_var (i := 4)) (ma_cons (me_var (i := 8)) ma_nil))) ma_nil)) (me_callB (b_reprI hgd (un65 hr)) T.n_repr boot_repr (ma_cons (me_var (i := 9)) ma_nil))) (mw_or1 (mt_cmp (o_ne hr.units) (me_cmp o_isN (me_var (i := 10)) me_non) (me_cmp (o_eq hr.units) (me_var (i := 9)) me_int))))) (mss_one (ms_ret me_bl)) mss_nil) (mss_cons (ms_if (MWJ.t (mw_and (mt_cmp o_notN (me_var (i := 10)) me_non) (mw_and1 (MWJ.t (mw_or (mt_cmp (o_ne hr.units) (me_callB b_len T.n_len boot_len (ma_cons (me_var (i := 10)) ma_nil)) (me_var (i := 8))) (mw_or1 (mt_cmp o_notN (me_callF (ok__law_break T) (takes_of rfl rfl rfl rfl) hgd (hr.mono (by decide)) (ma_cons (me_var (i := 3)) (ma_cons (me_var (i := 10)) ma_nil))) me_non))))))) (mss_one (ms_ret me_bl)) mss_nil) (mss_cons (ms_for PassesOwn.leaving rfl (mi_items (me_lst (ma_cons me_non (ma_cons me_int (ma_cons me_int (ma_cons me_bl (ma_cons me_str (ma_cons (me_tup (ma_cons me_int ma_nil)) ma_nil)))))))) (mg_name (is := [11]) (i := 11) sc_law.nd) (mss_one (ms_for PassesOwn.leaving rfl (mi_items (me_lst (ma_cons (me_lam (n := 0) TB hcode hTab hTabU rfl) (ma_cons (me_lam (n := 1) TB hcode hTab hTabU rfl) ma_nil)))) (mg_name (is := [12]) (i := 12) sc_law.nd) (mss_cons (ms_set (i := 13) sc_law.nd (caught (by rfl) (me_var (i := 12)))) (mss_one (ms_if (MWJ.t (mw_or (mt_not (mt_val (me_isC T.is_BadNumber.choose_spec T.n_isinstance (me_var (i := 13))))) (mw_or1 (mt_cmp (o_ne hr.units) (me_fldE (fld_part T) (me_var (i := 13))) me_str)))) (mss_one (ms_ret me_bl)) mss_nil)))))) (mss_cons (ms_set (i := 14) sc_law.nd (me_callF (ok__law_pick T) (takes_of rfl rfl rfl rfl) hgd (hr.mono (by decide)) (ma_cons (me_var (i := 1)) (ma_cons (me_lst (ma_cons me_non (ma_cons me_int (ma_cons (me_var (i := 3)) ma_nil)))) ma_nil)))) (mss_one (ms_for PassesOwn.leaving rfl (mi_items (me_lst (ma_cons (me_lam (n := 2) TB hcode hTab hTabU rfl) (ma_cons (me_lam (n := 3) TB hcode hTab hTabU rfl) ma_nil)))) (mg_name (is := [12]) (i := 12) sc_law.nd) (mss_cons (ms_set (i := 13) sc_law.nd (caught (by rfl) (me_var (i := 12)))) (mss_one (ms_if (MWJ.t (mw_or (mt_not (mt_val (me_isC T.is_BadProblem.choose_spec T.n_isinstance (me_var (i := 13))))) (mw_or1 (mt_cmp o_notN (me_fldE (fld_part T) (me_var (i := 13))) me_non)))) (mss_one (ms_ret me_bl)) mss_nil)))))))))))))))) (mss_one (ms_ret me_bl)))
  refine ⟨_, pss_cons (ps_set (i := 1) sc_law.nd rfl (.inl rfl) (pe_callG (E := fun _ _ _ _ => False) GB hgd (hr.mono (by decide)) (by rfl) gb Fb.kp bb (fun _ _ _ _ _ _ _ z => by obtain ⟨_, _, _, _, _, _, _, _, _, _, _, _, z⟩ := z; exact z.elim) (pa_cons (pv 0) pa_nil))) J.ps, ?_⟩
  refine ⟨.ref a, rfl, a, ns, rfl, hS, hl, fun H' d l c' L N D news keep => ?_⟩
  have R0 : Rel (ctx (cxD P w K mg base n_law "law" s_law f (.ref c) A outer s H E)) (none, Tbl.tabs) (fun _ => False) [] [] H := ⟨rfl, fun i o a h => by simp at h, fun i j o o' a h => by simp at h, fun i o a h => by simp at h, fun _ z => z.elim, trivial, hTabs, rfl⟩
  have nb : ∀ xs, H a = some (.lst xs) → ¬ Bad (none, Tbl.tabs) (fun _ => False) [] [] a := fun xs e z => by
    rcases z with z | (z | ⟨p, hp, e2⟩) | ⟨i, o, h1, _⟩
    · exact z
    · exact z
    · obtain ⟨qs, h1, _⟩ := hTabs p hp
      rw [e2, e] at h1
      cases h1
    · simp at h1
  obtain ⟨R1, e1⟩ := Rel.newDraw R0 rfl D.ok keep news
  have N0 := start_env (N := n_law) (n := n_law.length) (RVs.cons (rv_ints (C := ctx (cxD P w K mg base n_law "law" s_law f (.ref c) A outer s H E)) (g := (none, Tbl.tabs)) rfl hS nb) .nil) rfl
  refine ⟨(some (d, l, c'), Tbl.tabs), fun _ => False, [], _, [], R1, (N0.ext e1).set 1 (w := .d .drw) (v := .ref d) (RV.drw rfl), J.mono _ _ _ _ ?_ (LT lm ns hl)⟩
  exact ⟨fun _ _ z => z.elim, fun x ex g' ρ' S' H' v R e r => by
    subst ex
    cases r
    exact k H', fun _ _ z => z.elim, fun _ _ z => z.elim, fun _ z => z.elim⟩
end
end RW
namespace RW
open PySem PySem.Spec PyProof.Rows L2 SrtO
variable [Tbl]
local macro_rules | `(tactic| walk_at "sd") => `(tactic| first | exact True.intro | exact rfl | exact cEq_int _ _ | exact Nat.zero_le _ | (simp only [List.length_cons, List.length_nil]; decide) | (show cEq _ _; exact ⟨_, _, rfl, rfl, rfl, rfl⟩) | (show (_ ≤ _) ∧ _; (try dsimp only); omega) | (show _ ∈ errsAll; decide) | (show _ ∈ ownAll; decide) | exact cEq_lit _ _ | exact ⟨by decide, by decide⟩ | (show (_ : Int) < _; (try dsimp only); omega) | (show (0 : Nat) < 1000; decide) | (show (1 : Nat) < 1000; decide) | (show (2 : Nat) < 1000; decide) | (show (3 : Nat) < 1000; decide) | (show (4 : Nat) < 1000; decide) | (show (5 : Nat) < 1000; decide) | fail)
local macro_rules | `(tactic| walk_at "w1") => `(tactic| first | refine ⟨_, rfl, ?_⟩ | refine ⟨_, _, rfl, rfl, ?_⟩ | refine ⟨by walk_at "sd", ?_⟩ | refine ite_t rfl ?_ | refine ite_f rfl ?_ | refine ite_t (eqD_str _) ?_ | refine ite_f (congrArg (!·) (eqD_str _)) ?_ | refine ite_t (eqD_intS _) ?_ | refine ite_f (congrArg (!·) (eqD_intS _)) ?_ | (with_reducible refine mCl.mk ?_) | refine ⟨_, _, rfl, by decide, ?_⟩ | refine ⟨_, _, _, rfl, by decide, rfl, ?_⟩ | refine ⟨_, _, rfl, ?_⟩ | fail)
local macro_rules | `(tactic| walk_at "w") => `(tactic| repeat ((fail_if_success (with_reducible show loopM _ _ _ _ _ _)); (fail_if_success (with_reducible show lcM _ _ _ _ _ _ _ _ _)); walk_at "w1"))
local macro_rules | `(tactic| walk_at "u") => `(tactic| ((repeat ((fail_if_success (with_reducible show loopM _ _ _ _ _ _)); (fail_if_success (with_reducible show lcM _ _ _ _ _ _ _ _ _)); (fail_if_success (with_reducible show sSeq (sIf _ _ _) _ _ _ _)); (first | (with_reducible refine nx_go ?_) | walk_at "w1"))); (try (with_reducible show sSeq _ _ _ _ _))))
theorem rep_int {i : Int} (h : i.natAbs.log2 < 1920) : cReprI [.int i] := .inr (.inl ⟨_, rfl, h⟩)
theorem fRepr_int (i : Int) : fRepr [.int i] = .str (Str.ofString (toString i)) := congrArg D.str (shown_int i)
theorem bad_size (bad : D) (h : bad ∈ [D.non, .int 0, .int 401, .bl true, .str "3", .tup [.int 3]]) : (tyNm bad).isSome = true ∧ btw bad 1 400 = false := by
  simp only [List.mem_cons, List.mem_nil_iff, or_false] at h
  rcases h with rfl | rfl | rfl | rfl | rfl | rfl <;> exact ⟨rfl, rfl⟩
section
variable {Q E : D → Prop} {n : Nat} {P : List (Int × Int)} {d bad : D}
theorem p_badS (hd : IsProb n P d) (h : (tyNm bad).isSome = true) (hb : btw bad 1 400 = false) (e : E (.exc "BadNumber" [("part", .str "size")])) : m_some_labelling [d, bad] Q E := by
  refine mFc.mk ?_
  walk_at "w"
  refine p_needP hd ?_
  walk_at "w"
  exact p_need_between h (fun z => nomatch (hb.symm.trans z : false = true)) fun _ => e
theorem p_badH (hd : IsProb n P d) (h : (tyNm bad).isSome = true) (hb : btw bad 1 400 = false) (e : E (.exc "BadNumber" [("part", .str "size")])) : m_how_many [d, bad] Q E := by
  refine mFc.mk ?_
  walk_at "w"
  refine p_needP hd ?_
  walk_at "w"
  exact p_need_between h (fun z => nomatch (hb.symm.trans z : false = true)) fun _ => e
theorem p_noneS {x : D} (h : x = .non ∨ x = .int 5 ∨ ∃ kvs, x = .dic kvs) (e : E (.exc "BadProblem" [("part", .non)])) : m_some_labelling [x, .non] Q E := by
  refine mFc.mk ?_
  walk_at "w"
  exact p_needX h e
theorem p_noneH {x : D} (h : x = .non ∨ x = .int 5 ∨ ∃ kvs, x = .dic kvs) (e : E (.exc "BadProblem" [("part", .non)])) : m_how_many [x, .non] Q E := by
  refine mFc.mk ?_
  walk_at "w"
  exact p_needX h e
end
theorem eqD_bl (a b : Bool) : eqD (.bl a) (.bl b) = (a == b) := by cases a <;> cases b <;> rfl
theorem law_true : LawTrue := by
  intro lm sc hsc
  walk_at "w"
  refine loop_all (fun e S => ∃ x2 x3 x4 x5 x6 x7 x8 x9 x10 x11 x12 x13 x14 x15 : Option W, e = [some (.d (.lst (sc.map D.int))), some (.d .drw), x2, x3, x4, x5, x6, x7, x8, x9, x10, x11, x12, x13, x14, x15]) (fun _ => trivial) _ (fun t ht env S hI K2 n2 c2 r2 b2 e2 => ?_) ?_ _ _ ⟨_, _, _, _, _, _, _, _, _, _, _, _, _, _, rfl⟩
  · obtain ⟨x2, x3, x4, x5, x6, x7, x8, x9, x10, x11, x12, x13, x14, x15, rfl⟩ := hI
    walk_at "w"
    refine p_sketch (most := 4) (by decide) (by decide) fun n P st en n1 n4 GP hE => ?_
    have n4' : n ≤ 4 := by omega
    have hl : P.length < 64 := by
      have := GP.len
      have : n * n ≤ 16 := Nat.mul_le_mul n4' n4'
      omega
    obtain ⟨se, hse, rfl, rfl⟩ := se_of hE
    have aL : dAt [(D.str "labels", D.int n), (.str "pairs", .lst (P.map pairD)), (.str "starts", stD se), (.str "ends", enD se)] (.str "labels") (some (.int n)) := .inl ⟨.inr "labels", rfl, rfl⟩
    walk_at "w"
    refine p_madeD n1 (by omega) GP hl hse ?_
    walk_at "w"
    refine fun t t0 t1 => ?_
    walk_at "w"
    refine loop_all (fun e S => ∃ x2 x5 x6 x7 x8 x9 x10 x11 x12 x13 x14 x15 : Option W, e = [some (.d (.lst (sc.map D.int))), some (.d .drw), x2, some (.d (skD n P (stD se) (enD se))), some (.d (probD n P se)), x5, x6, x7, x8, x9, x10, x11, x12, x13, x14, x15]) (fun _ => trivial) _ (fun sz hsz env S hI K3 n3 c3 r3 b3 e3 => ?_) ?_ _ _ ⟨_, _, _, _, _, _, _, _, _, _, _, _, rfl⟩
    · obtain ⟨x2, x5, x6, x7, x8, x9, x10, x11, x12, x13, x14, x15, rfl⟩ := hI
      obtain ⟨k, rfl, hk⟩ : ∃ k : Nat, sz = .int ((k + 1 : Nat) : Int) ∧ k ≤ 4 := by
        simp only [List.mem_cons, List.mem_nil_iff, or_false] at hsz
        rcases hsz with rfl | rfl | rfl | rfl
        · exact ⟨0, rfl, by decide⟩
        · exact ⟨1, rfl, by decide⟩
        · exact ⟨2, rfl, by decide⟩
        · exact ⟨3 + t.toNat, congrArg D.int (by omega), by omega⟩
      walk_at "w"
      refine ⟨_, _, _, rfl, rfl, aL, ?_⟩
      walk_at "w"
      refine p_rows (k + 1) (by omega) (by omega) ?_
      walk_at "w"
      have rl : (rowsA n (k + 1)).length ≤ 15625 := by
        rw [rowsA_len]
        exact Nat.le_trans (Nat.pow_le_pow_left (show n ≤ 5 by omega) _) (Nat.le_trans (Nat.pow_le_pow_right (by decide) (show k + 1 ≤ 6 by omega)) (by decide))
      refine lc_gen trivial tupI (okR P se) tupI (rowsA n (k + 1)) (by unfold line; omega) (fun r hr => ⟨_, rfl, fun Q' q' => ?_, fun _ Q' q' => ?_⟩) ?_
      · have rlen := rowsA_row hr
        walk_at "w"
        refine p_break (fun z => by rw [z] at rlen; cases rlen) (by omega) fun d hd => ?_
        walk_at "w"
        rw [hd]
        exact q'
      · walk_at "w"
        exact q'
      have eL : fLen [.lst (((rowsA n (k + 1)).filter (okR P se)).map tupI)] = .int (manyI n P se k) := by
        show D.int (((((rowsA n (k + 1)).filter (okR P se)).map tupI).length : Nat) : Int) = _
        rw [List.length_map, right_len GP hse]
      have eH := right_head GP hse k
      have tr := fun w => told_right (w := w) GP hse k
      obtain ⟨m0, mL⟩ := many_le (P := P) GP hse n4' k (by omega)
      generalize (rowsA n (k + 1)).filter (okR P se) = R at eL eH ⊢
      walk_at "w"
      refine p_how k (by omega) (by omega) GP hl hse ?_
      walk_at "w"
      refine ⟨rep_int mL, ?_⟩
      walk_at "w"
      rw [eL]
      refine ⟨rep_int mL, ?_⟩
      rw [fRepr_int]
      walk_at "w"
      refine p_how k (by omega) (by omega) GP hl hse ?_
      walk_at "w"
      rw [eL]
      walk_at "w"
      refine ⟨cEq_nil tupI pyT toPy_lstT shT R, ?_⟩
      have rep := rep_walk (R := R.head?) fun w hw => by
        rw [eH] at hw
        obtain ⟨f1, _, f2⟩ := tr w hw
        refine ⟨fun x hx => ?_, by omega⟩
        have := f2 x hx
        have e12 : (10 : Nat) ^ 12 = 1000000000000 := by decide
        show x.natAbs < 10 ^ 12
        rw [e12]
        omega
      have stepD : ∀ (e : MEnv) (T : Sto), True := fun _ _ => trivial
      refine ⟨_, rfl, ?_⟩
      cases R with
      | nil =>
        refine ite_f (congrArg (!·) (eq_nil tupI pyT toPy_lstT [])) ?_
        walk_at "w"
        refine p_some_lab k (by omega) (by omega) GP hl hse ?_
        rw [← eH]
        walk_at "w"
        refine ⟨.inl rep.1, ?_⟩
        walk_at "w"
        refine ⟨.inl rep.1, ?_⟩
        walk_at "w"
        refine p_some_lab k (by omega) (by omega) GP hl hse ?_
        rw [← eH]
        walk_at "w"
        exact n3 _ _ ⟨_, _, _, _, _, _, _, _, _, _, _, _, rfl⟩
      | cons f fs =>
        refine ite_t (congrArg (!·) (eq_nil tupI pyT toPy_lstT (f :: fs))) ?_
        walk_at "w"
        refine ⟨⟨0, tupI f, rfl, rfl, head_at _ _⟩, ?_⟩
        rw [show fIx (.lst ((f :: fs).map tupI)) (.int 0) = tupI f from ixl_at (head_at _ _)]
        walk_at "w"
        refine p_some_lab k (by omega) (by omega) GP hl hse ?_
        rw [← eH]
        walk_at "w"
        refine ⟨.inl rep.1, ?_⟩
        walk_at "w"
        refine ⟨.inl rep.1, ?_⟩
        walk_at "w"
        refine ⟨rep.2, ?_⟩
        walk_at "w"
        refine p_some_lab k (by omega) (by omega) GP hl hse ?_
        rw [← eH]
        walk_at "w"
        refine ⟨cEq_tupI f f, _, rfl, ite_f (congrArg (!·) (eq_walk (some f))) ?_⟩
        exact n3 _ _ ⟨_, _, _, _, _, _, _, _, _, _, _, _, rfl⟩
    · rintro env S ⟨x2, x5, x6, x7, x8, x9, x10, x11, x12, x13, x14, x15, rfl⟩
      walk_at "w"
      refine fun g g0 g1 => ?_
      obtain ⟨k, ek, hk⟩ : ∃ k : Nat, (7 : Int) + g = ((k + 1 : Nat) : Int) ∧ k ≤ 46 := ⟨6 + g.toNat, by omega, by omega⟩
      obtain ⟨m0, mL⟩ := many_le (P := P) GP hse n4' k (by omega)
      have nI := none_iff (n := n) (P := P) (se := se) k
      have tr := fun w => told_right (w := w) GP hse k
      walk_at "w"
      rw [show plusD (.int 7) (.int g) = .int ((k + 1 : Nat) : Int) from congrArg D.int ek]
      refine p_lsum k (by omega) (by omega) GP ?_
      rw [sum_many GP hse]
      walk_at "w"
      refine p_some_lab k (by omega) (by omega) GP hl hse ?_
      walk_at "w"
      refine p_how k (by omega) (by omega) GP hl hse ?_
      walk_at "w"
      refine ⟨rep_int mL, ?_⟩
      walk_at "w"
      refine ⟨rep_int mL, ?_⟩
      rw [fRepr_int]
      generalize walkE (behI (srtP P)) (endE P se) k (frm n se) = R at nI tr ⊢
      walk_at "w"
      have eN : isNon (walkD R) = eqD (.int (manyI n P se k)) (.int 0) := by
        rw [eqD_int]
        have : (manyI n P se k == 0) = decide (manyI n P se k = 0) := by
          by_cases h : manyI n P se k = 0 <;> simp [h]
        rw [this, ← nI]
        cases R <;> rfl
      refine ite_f ?_ ?_
      · show (!eqD (.bl (isNon (walkD R))) (.bl (eqD (.int (manyI n P se k)) (.int 0)))) = false
        rw [eN, eqD_bl]
        simp
      walk_at "u"
      refine ms_seq (fun e T => ∃ x2 x5 x6 x7 x8 x9 x10 x11 x12 x13 x14 x15 : Option W, e = [some (.d (.lst (sc.map D.int))), some (.d .drw), x2, some (.d (skD n P (stD se) (enD se))), some (.d (probD n P se)), x5, x6, x7, x8, x9, x10, x11, x12, x13, x14, x15]) (fun K4 n4 r4 b4 c4 e4 => ?_) ?_
      · cases R with
        | none =>
          walk_at "w"
          exact n4 _ _ ⟨_, _, _, _, _, _, _, _, _, _, _, _, rfl⟩
        | some w =>
          obtain ⟨wl, wr, _⟩ := tr w rfl
          walk_at "w"
          have ew : fLen [walkD (some w)] = .int ((k + 1 : Nat) : Int) := by
            show D.int (((w.map D.int).length : Nat) : Int) = _
            rw [List.length_map, wl]
          rw [ew]
          walk_at "w"
          refine p_break (row := w) (fun z => by rw [z] at wl; cases wl) (by omega) fun d hd => ?_
          walk_at "w"
          refine ite_f ?_ (n4 _ _ ⟨_, _, _, _, _, _, _, _, _, _, _, _, rfl⟩)
          rw [hd, wr]
          rfl
      · rintro e T ⟨x2, x5, x6, x7, x8, x9, x10, x11, x12, x13, x14, x15, rfl⟩
        walk_at "w"
        refine loop_all (fun e S => ∃ x2 x5 x6 x7 x8 x9 x10 x11 x12 x13 x14 x15 : Option W, e = [some (.d (.lst (sc.map D.int))), some (.d .drw), x2, some (.d (skD n P (stD se) (enD se))), some (.d (probD n P se)), x5, x6, x7, x8, x9, x10, x11, x12, x13, x14, x15]) (fun _ => trivial) _ (fun bad hbad env S hI K5 n5 c5 r5 b5 e5 => ?_) ?_ _ _ ⟨_, _, _, _, _, _, _, _, _, _, _, _, rfl⟩
        · obtain ⟨x2, x5, x6, x7, x8, x9, x10, x11, x12, x13, x14, x15, rfl⟩ := hI
          walk_at "w"
          show loopM _ _ _ _ _ _
          refine loop_all (fun e S => ∃ x2 x5 x6 x7 x8 x9 x10 x12 x13 x14 x15 : Option W, e = [some (.d (.lst (sc.map D.int))), some (.d .drw), x2, some (.d (skD n P (stD se) (enD se))), some (.d (probD n P se)), x5, x6, x7, x8, x9, x10, some (.d bad), x12, x13, x14, x15]) (fun _ => trivial) _ (fun work hwork env S hI K6 n6 c6 r6 b6 e6 => ?_) ?_ _ _ ⟨_, _, _, _, _, _, _, _, _, _, _, rfl⟩
          · obtain ⟨x2, x5, x6, x7, x8, x9, x10, x12, x13, x14, x15, rfl⟩ := hI
            obtain ⟨k1, k2⟩ := bad_size bad hbad
            have hw2 : work = .act 0 (lm 0) qLam ∨ work = .act 1 (lm 1) qLam := by
              simp only [List.mem_cons, List.mem_nil_iff, or_false] at hwork
              exact hwork
            rcases hw2 with rfl | rfl
            · walk_at "w"
              refine p_badS (prob_is n P se) k1 k2 ?_
              walk_at "w"
              exact n6 _ _ ⟨_, _, _, _, _, _, _, _, _, _, _, rfl⟩
            · walk_at "w"
              refine p_badH (prob_is n P se) k1 k2 ?_
              walk_at "w"
              exact n6 _ _ ⟨_, _, _, _, _, _, _, _, _, _, _, rfl⟩
          · rintro env S ⟨x2, x5, x6, x7, x8, x9, x10, x12, x13, x14, x15, rfl⟩
            exact n5 _ _ ⟨_, _, _, _, _, _, _, _, _, _, _, _, rfl⟩
        · rintro env S ⟨x2, x5, x6, x7, x8, x9, x10, x11, x12, x13, x14, x15, rfl⟩
          walk_at "w"
          refine p_pick (by show (0 : Nat) < 3; decide) (by show (3 : Nat) < _; decide) fun y hy => ?_
          have hy2 : y = .non ∨ y = .int 5 ∨ ∃ kvs, y = .dic kvs := by
            simp only [List.mem_cons, List.mem_nil_iff, or_false] at hy
            rcases hy with rfl | rfl | rfl
            · exact .inl rfl
            · exact .inr (.inl rfl)
            · exact .inr (.inr ⟨_, rfl⟩)
          walk_at "w"
          show loopM _ _ _ _ _ _
          refine loop_all (fun e S => ∃ x2 x5 x6 x7 x8 x9 x10 x11 x12 x13 x15 : Option W, e = [some (.d (.lst (sc.map D.int))), some (.d .drw), x2, some (.d (skD n P (stD se) (enD se))), some (.d (probD n P se)), x5, x6, x7, x8, x9, x10, x11, x12, x13, some (.d y), x15]) (fun _ => trivial) _ (fun work hwork env S hI K6 n6 c6 r6 b6 e6 => ?_) ?_ _ _ ⟨_, _, _, _, _, _, _, _, _, _, _, rfl⟩
          · obtain ⟨x2, x5, x6, x7, x8, x9, x10, x11, x12, x13, x15, rfl⟩ := hI
            have hw2 : work = .act 2 (lm 2) qLam ∨ work = .act 3 (lm 3) qLam := by
              simp only [List.mem_cons, List.mem_nil_iff, or_false] at hwork
              exact hwork
            rcases hw2 with rfl | rfl
            · walk_at "w"
              refine p_noneS hy2 ?_
              walk_at "w"
              exact n6 _ _ ⟨_, _, _, _, _, _, _, _, _, _, _, rfl⟩
            · walk_at "w"
              refine p_noneH hy2 ?_
              walk_at "w"
              exact n6 _ _ ⟨_, _, _, _, _, _, _, _, _, _, _, rfl⟩
          · rintro env S ⟨x2, x5, x6, x7, x8, x9, x10, x11, x12, x13, x15, rfl⟩
            exact n2 _ _ ⟨_, _, _, _, _, _, _, _, _, _, _, _, _, _, rfl⟩
  · rintro env S ⟨x2, x3, x4, x5, x6, x7, x8, x9, x10, x11, x12, x13, x14, x15, rfl⟩
    walk_at "w"
    rfl
end RW
namespace RW
open PySem PySem.Spec PyProof.Rows L2
/-! ### the head -/
def fnAll : List He.DefD := [dDef "_law_begun" s__law_begun, dDef "_law_mixed" s__law_mixed, dDef "_law_take" s__law_take, dDef "_law_caught" s__law_caught, dDef "is_number" s_is_number, dDef "is_between" s_is_between, dDef "is_list" s_is_list, dDef "is_tuple" s_is_tuple, dDef "need_between" s_need_between, dDef "is_labels" s_is_labels, dDef "is_pairs" s_is_pairs, dDef "need_pairs" s_need_pairs, dDef "need_problem" s_need_problem, dDef "behind_of" s_behind_of, dDef "ways_to" s_ways_to, dDef "starts_of" s_starts_of, dDef "some_labelling" s_some_labelling, dDef "how_many" s_how_many, dDef "_law_pick" s__law_pick, dDef "_law_shuffled" s__law_shuffled, dDef "_law_pairs" s__law_pairs, dDef "_law_some_labels" s__law_some_labels, dDef "_law_sketch" s__law_sketch, dDef "_law_made" s__law_made, dDef "_law_break" s__law_break, dDef "_law_rows" s__law_rows, dDef "_law_ways" s__law_ways, dDef "_law_sum" s__law_sum, dDef "law" s_law, iDef "RingProblem" "RingProblem.__init__" s_RingProblem, iDef "PathProblem" "PathProblem.__init__" s_PathProblem]
def faAll : List He.Fa := [.glo "_law_begun", .glo "_law_mixed", .glo "_law_take", .glo "_law_caught", .glo "is_number", .glo "is_between", .glo "is_list", .glo "is_tuple", .glo "need_between", .glo "is_labels", .glo "is_pairs", .glo "need_pairs", .glo "need_problem", .glo "behind_of", .glo "ways_to", .glo "starts_of", .glo "some_labelling", .glo "how_many", .glo "_law_pick", .glo "_law_shuffled", .glo "_law_pairs", .glo "_law_some_labels", .glo "_law_sketch", .glo "_law_made", .glo "_law_break", .glo "_law_rows", .glo "_law_ways", .glo "_law_sum", .glo "law", .glo "RoundError", .glo "BadNumber", .glo "BadProblem", .free "abs", .free "all", .free "bool", .free "dict", .free "int", .free "isinstance", .free "len", .free "list", .free "min", .free "range", .free "repr", .free "set", .free "sorted", .free "sum", .free "super", .free "tuple", .int "MOST_LABELS" 12, .int "MOST_HOUSES" 400, .exm "BadNumber" "RoundError" true, .exm "BadProblem" "RoundError" true, .glo "RingProblem", .cls "RingProblem", .mkr "RingProblem", .noat "RingProblem" "labels", .noat "RingProblem" "pairs", .glo "PathProblem", .cls "PathProblem", .mkr "PathProblem", .noat "PathProblem" "labels", .noat "PathProblem" "pairs", .noat "PathProblem" "starts", .noat "PathProblem" "ends"]
def esAll : List ErrD := [⟨"BadNumber", "part", "BadNumber.__init__", inClass (top 2) 0⟩, ⟨"BadProblem", "part", "BadProblem.__init__", inClass (top 3) 0⟩]
abbrev theRow : PySem.W.OpenRow := PySem.W.OpenLaw.row PySem.Challenge.rw_roundwright_k03_whole_least_labellings_a
def exAll (K : PySem.W.Frag) : Bool := errB K theRow.prog.main.file "BadNumber" "part" && errB K theRow.prog.main.file "BadProblem" "part" && isB K errsAll "RoundError" "BadNumber" && isB K errsAll "RoundError" "BadProblem" && ownIB K ownAll "RingProblem" && ownIB K ownAll "PathProblem"
def nmAll : List Str := (("RoundError" : Str) :: ("BadNumber" : Str) :: ("BadProblem" : Str) :: ("RingProblem" : Str) :: ("PathProblem" : Str) :: ("_law_begun" : Str) :: ("_law_mixed" : Str) :: ("_law_take" : Str) :: ("_law_caught" : Str) :: ("is_number" : Str) :: ("is_between" : Str) :: ("is_list" : Str) :: ("is_tuple" : Str) :: ("need_between" : Str) :: ("is_labels" : Str) :: ("is_pairs" : Str) :: ("need_pairs" : Str) :: ("need_problem" : Str) :: ("behind_of" : Str) :: ("ways_to" : Str) :: ("starts_of" : Str) :: ("some_labelling" : Str) :: ("how_many" : Str) :: ("_law_pick" : Str) :: ("_law_shuffled" : Str) :: ("_law_pairs" : Str) :: ("_law_some_labels" : Str) :: ("_law_sketch" : Str) :: ("_law_made" : Str) :: ("_law_break" : Str) :: ("_law_rows" : Str) :: ("_law_ways" : Str) :: ("_law_sum" : Str) :: ("MOST_LABELS" : Str) :: ("MOST_HOUSES" : Str) :: [])
abbrev hkAll : PySem.W.Hook := hookR 4 faAll fnAll exAll esAll
def obAll (s : PySem.W.SharedT) : Look := look 4 faAll fnAll exAll esAll (HandSHeadRun.getT s)
theorem obAll_eq (s : PySem.W.SharedT) : obAll s = hkAll.obs s.abs := look_eq (HandSHeadRun.getT_eq s)
theorem runAll (w : World) : HandSHeadRun.RunEq theRow (PySem.W.view theRow.prog [39]) hkAll obAll 6000 nmAll w := by
  intro os
  kernel_rfl
end RW
namespace RW
open PySem PySem.Spec PyProof.Rows L2
theorem txt_of {K : PySem.W.Frag} {h : Heap} {mg : Str → Option Value} (X : K.In h) (G : h.Ns mainGlobals mg) (c : Told faAll fnAll exAll esAll h K) : Txt theRow.prog K mg := by
  have n_abs := He.free_ok X G (c.d.fact 32 (f := .free "abs") rfl)
  have n_all := He.free_ok X G (c.d.fact 33 (f := .free "all") rfl)
  have n_bool := He.free_ok X G (c.d.fact 34 (f := .free "bool") rfl)
  have n_dict := He.free_ok X G (c.d.fact 35 (f := .free "dict") rfl)
  have n_int := He.free_ok X G (c.d.fact 36 (f := .free "int") rfl)
  have n_isinstance := He.free_ok X G (c.d.fact 37 (f := .free "isinstance") rfl)
  have n_len := He.free_ok X G (c.d.fact 38 (f := .free "len") rfl)
  have n_list := He.free_ok X G (c.d.fact 39 (f := .free "list") rfl)
  have n_min := He.free_ok X G (c.d.fact 40 (f := .free "min") rfl)
  have n_range := He.free_ok X G (c.d.fact 41 (f := .free "range") rfl)
  have n_repr := He.free_ok X G (c.d.fact 42 (f := .free "repr") rfl)
  have n_set := He.free_ok X G (c.d.fact 43 (f := .free "set") rfl)
  have n_sorted := He.free_ok X G (c.d.fact 44 (f := .free "sorted") rfl)
  have n_sum := He.free_ok X G (c.d.fact 45 (f := .free "sum") rfl)
  have n_super := He.free_ok X G (c.d.fact 46 (f := .free "super") rfl)
  have n_tuple := He.free_ok X G (c.d.fact 47 (f := .free "tuple") rfl)
  have c_MOST_LABELS := He.int_ok X G (c.d.fact 48 (f := .int "MOST_LABELS" 12) rfl)
  have c_MOST_HOUSES := He.int_ok X G (c.d.fact 49 (f := .int "MOST_HOUSES" 400) rfl)
  have f__law_begun : ∃ f fd, Fun K "_law_begun" "_law_begun" s__law_begun f fd ∧ mg "_law_begun" = some (.ref f) ∧ Binds K fd ["script"] [] := by
    obtain ⟨fd, F⟩ := c.d.def_ 0 (d := dDef "_law_begun" s__law_begun) rfl
    have F2 := fun_of (x := "_law_begun") (st := s__law_begun) F
    exact ⟨_, fd, F2, He.glo_ok X G (c.d.fact 0 (f := .glo "_law_begun") rfl), F2.binds (ps := ["script"]) fun _ _ _ _ _ _ us hl => match us, hl with | [_], _ => rfl⟩
  have f__law_mixed : ∃ f fd, Fun K "_law_mixed" "_law_mixed" s__law_mixed f fd ∧ mg "_law_mixed" = some (.ref f) ∧ Binds K fd ["draw"] [] := by
    obtain ⟨fd, F⟩ := c.d.def_ 1 (d := dDef "_law_mixed" s__law_mixed) rfl
    have F2 := fun_of (x := "_law_mixed") (st := s__law_mixed) F
    exact ⟨_, fd, F2, He.glo_ok X G (c.d.fact 1 (f := .glo "_law_mixed") rfl), F2.binds (ps := ["draw"]) fun _ _ _ _ _ _ us hl => match us, hl with | [_], _ => rfl⟩
  have f__law_take : ∃ f fd, Fun K "_law_take" "_law_take" s__law_take f fd ∧ mg "_law_take" = some (.ref f) ∧ Binds K fd ["draw", "amount"] [] := by
    obtain ⟨fd, F⟩ := c.d.def_ 2 (d := dDef "_law_take" s__law_take) rfl
    have F2 := fun_of (x := "_law_take") (st := s__law_take) F
    exact ⟨_, fd, F2, He.glo_ok X G (c.d.fact 2 (f := .glo "_law_take") rfl), F2.binds (ps := ["draw", "amount"]) fun _ _ _ _ _ _ us hl => match us, hl with | [_, _], _ => rfl⟩
  have f__law_caught : ∃ f fd, Fun K "_law_caught" "_law_caught" s__law_caught f fd ∧ mg "_law_caught" = some (.ref f) ∧ Binds K fd ["work"] [] := by
    obtain ⟨fd, F⟩ := c.d.def_ 3 (d := dDef "_law_caught" s__law_caught) rfl
    have F2 := fun_of (x := "_law_caught") (st := s__law_caught) F
    exact ⟨_, fd, F2, He.glo_ok X G (c.d.fact 3 (f := .glo "_law_caught") rfl), F2.binds (ps := ["work"]) fun _ _ _ _ _ _ us hl => match us, hl with | [_], _ => rfl⟩
  have f_is_number : ∃ f fd, Fun K "is_number" "is_number" s_is_number f fd ∧ mg "is_number" = some (.ref f) ∧ Binds K fd ["thing"] [] := by
    obtain ⟨fd, F⟩ := c.d.def_ 4 (d := dDef "is_number" s_is_number) rfl
    have F2 := fun_of (x := "is_number") (st := s_is_number) F
    exact ⟨_, fd, F2, He.glo_ok X G (c.d.fact 4 (f := .glo "is_number") rfl), F2.binds (ps := ["thing"]) fun _ _ _ _ _ _ us hl => match us, hl with | [_], _ => rfl⟩
  have f_is_between : ∃ f fd, Fun K "is_between" "is_between" s_is_between f fd ∧ mg "is_between" = some (.ref f) ∧ Binds K fd ["thing", "low", "high"] [] := by
    obtain ⟨fd, F⟩ := c.d.def_ 5 (d := dDef "is_between" s_is_between) rfl
    have F2 := fun_of (x := "is_between") (st := s_is_between) F
    exact ⟨_, fd, F2, He.glo_ok X G (c.d.fact 5 (f := .glo "is_between") rfl), F2.binds (ps := ["thing", "low", "high"]) fun _ _ _ _ _ _ us hl => match us, hl with | [_, _, _], _ => rfl⟩
  have f_is_list : ∃ f fd, Fun K "is_list" "is_list" s_is_list f fd ∧ mg "is_list" = some (.ref f) ∧ Binds K fd ["thing"] [] := by
    obtain ⟨fd, F⟩ := c.d.def_ 6 (d := dDef "is_list" s_is_list) rfl
    have F2 := fun_of (x := "is_list") (st := s_is_list) F
    exact ⟨_, fd, F2, He.glo_ok X G (c.d.fact 6 (f := .glo "is_list") rfl), F2.binds (ps := ["thing"]) fun _ _ _ _ _ _ us hl => match us, hl with | [_], _ => rfl⟩
  have f_is_tuple : ∃ f fd, Fun K "is_tuple" "is_tuple" s_is_tuple f fd ∧ mg "is_tuple" = some (.ref f) ∧ Binds K fd ["thing", "size"] [] := by
    obtain ⟨fd, F⟩ := c.d.def_ 7 (d := dDef "is_tuple" s_is_tuple) rfl
    have F2 := fun_of (x := "is_tuple") (st := s_is_tuple) F
    exact ⟨_, fd, F2, He.glo_ok X G (c.d.fact 7 (f := .glo "is_tuple") rfl), F2.binds (ps := ["thing", "size"]) fun _ _ _ _ _ _ us hl => match us, hl with | [_, _], _ => rfl⟩
  have f_need_between : ∃ f fd, Fun K "need_between" "need_between" s_need_between f fd ∧ mg "need_between" = some (.ref f) ∧ Binds K fd ["number", "low", "high", "part"] [] := by
    obtain ⟨fd, F⟩ := c.d.def_ 8 (d := dDef "need_between" s_need_between) rfl
    have F2 := fun_of (x := "need_between") (st := s_need_between) F
    exact ⟨_, fd, F2, He.glo_ok X G (c.d.fact 8 (f := .glo "need_between") rfl), F2.binds (ps := ["number", "low", "high", "part"]) fun _ _ _ _ _ _ us hl => match us, hl with | [_, _, _, _], _ => rfl⟩
  have f_is_labels : ∃ f fd, Fun K "is_labels" "is_labels" s_is_labels f fd ∧ mg "is_labels" = some (.ref f) ∧ Binds K fd ["labels", "thing"] [] := by
    obtain ⟨fd, F⟩ := c.d.def_ 9 (d := dDef "is_labels" s_is_labels) rfl
    have F2 := fun_of (x := "is_labels") (st := s_is_labels) F
    exact ⟨_, fd, F2, He.glo_ok X G (c.d.fact 9 (f := .glo "is_labels") rfl), F2.binds (ps := ["labels", "thing"]) fun _ _ _ _ _ _ us hl => match us, hl with | [_, _], _ => rfl⟩
  have f_is_pairs : ∃ f fd, Fun K "is_pairs" "is_pairs" s_is_pairs f fd ∧ mg "is_pairs" = some (.ref f) ∧ Binds K fd ["labels", "thing"] [] := by
    obtain ⟨fd, F⟩ := c.d.def_ 10 (d := dDef "is_pairs" s_is_pairs) rfl
    have F2 := fun_of (x := "is_pairs") (st := s_is_pairs) F
    exact ⟨_, fd, F2, He.glo_ok X G (c.d.fact 10 (f := .glo "is_pairs") rfl), F2.binds (ps := ["labels", "thing"]) fun _ _ _ _ _ _ us hl => match us, hl with | [_, _], _ => rfl⟩
  have f_need_pairs : ∃ f fd, Fun K "need_pairs" "need_pairs" s_need_pairs f fd ∧ mg "need_pairs" = some (.ref f) ∧ Binds K fd ["labels", "pairs"] [] := by
    obtain ⟨fd, F⟩ := c.d.def_ 11 (d := dDef "need_pairs" s_need_pairs) rfl
    have F2 := fun_of (x := "need_pairs") (st := s_need_pairs) F
    exact ⟨_, fd, F2, He.glo_ok X G (c.d.fact 11 (f := .glo "need_pairs") rfl), F2.binds (ps := ["labels", "pairs"]) fun _ _ _ _ _ _ us hl => match us, hl with | [_, _], _ => rfl⟩
  have f_need_problem : ∃ f fd, Fun K "need_problem" "need_problem" s_need_problem f fd ∧ mg "need_problem" = some (.ref f) ∧ Binds K fd ["thing"] [] := by
    obtain ⟨fd, F⟩ := c.d.def_ 12 (d := dDef "need_problem" s_need_problem) rfl
    have F2 := fun_of (x := "need_problem") (st := s_need_problem) F
    exact ⟨_, fd, F2, He.glo_ok X G (c.d.fact 12 (f := .glo "need_problem") rfl), F2.binds (ps := ["thing"]) fun _ _ _ _ _ _ us hl => match us, hl with | [_], _ => rfl⟩
  have f_behind_of : ∃ f fd, Fun K "behind_of" "behind_of" s_behind_of f fd ∧ mg "behind_of" = some (.ref f) ∧ Binds K fd ["problem"] [] := by
    obtain ⟨fd, F⟩ := c.d.def_ 13 (d := dDef "behind_of" s_behind_of) rfl
    have F2 := fun_of (x := "behind_of") (st := s_behind_of) F
    exact ⟨_, fd, F2, He.glo_ok X G (c.d.fact 13 (f := .glo "behind_of") rfl), F2.binds (ps := ["problem"]) fun _ _ _ _ _ _ us hl => match us, hl with | [_], _ => rfl⟩
  have f_ways_to : ∃ f fd, Fun K "ways_to" "ways_to" s_ways_to f fd ∧ mg "ways_to" = some (.ref f) ∧ Binds K fd ["problem", "goals", "steps"] [] := by
    obtain ⟨fd, F⟩ := c.d.def_ 14 (d := dDef "ways_to" s_ways_to) rfl
    have F2 := fun_of (x := "ways_to") (st := s_ways_to) F
    exact ⟨_, fd, F2, He.glo_ok X G (c.d.fact 14 (f := .glo "ways_to") rfl), F2.binds (ps := ["problem", "goals", "steps"]) fun _ _ _ _ _ _ us hl => match us, hl with | [_, _, _], _ => rfl⟩
  have f_starts_of : ∃ f fd, Fun K "starts_of" "starts_of" s_starts_of f fd ∧ mg "starts_of" = some (.ref f) ∧ Binds K fd ["problem", "size"] [] := by
    obtain ⟨fd, F⟩ := c.d.def_ 15 (d := dDef "starts_of" s_starts_of) rfl
    have F2 := fun_of (x := "starts_of") (st := s_starts_of) F
    exact ⟨_, fd, F2, He.glo_ok X G (c.d.fact 15 (f := .glo "starts_of") rfl), F2.binds (ps := ["problem", "size"]) fun _ _ _ _ _ _ us hl => match us, hl with | [_, _], _ => rfl⟩
  have f_some_labelling : ∃ f fd, Fun K "some_labelling" "some_labelling" s_some_labelling f fd ∧ mg "some_labelling" = some (.ref f) ∧ Binds K fd ["problem", "size"] [] := by
    obtain ⟨fd, F⟩ := c.d.def_ 16 (d := dDef "some_labelling" s_some_labelling) rfl
    have F2 := fun_of (x := "some_labelling") (st := s_some_labelling) F
    exact ⟨_, fd, F2, He.glo_ok X G (c.d.fact 16 (f := .glo "some_labelling") rfl), F2.binds (ps := ["problem", "size"]) fun _ _ _ _ _ _ us hl => match us, hl with | [_, _], _ => rfl⟩
  have f_how_many : ∃ f fd, Fun K "how_many" "how_many" s_how_many f fd ∧ mg "how_many" = some (.ref f) ∧ Binds K fd ["problem", "size"] [] := by
    obtain ⟨fd, F⟩ := c.d.def_ 17 (d := dDef "how_many" s_how_many) rfl
    have F2 := fun_of (x := "how_many") (st := s_how_many) F
    exact ⟨_, fd, F2, He.glo_ok X G (c.d.fact 17 (f := .glo "how_many") rfl), F2.binds (ps := ["problem", "size"]) fun _ _ _ _ _ _ us hl => match us, hl with | [_, _], _ => rfl⟩
  have f__law_pick : ∃ f fd, Fun K "_law_pick" "_law_pick" s__law_pick f fd ∧ mg "_law_pick" = some (.ref f) ∧ Binds K fd ["draw", "some"] [] := by
    obtain ⟨fd, F⟩ := c.d.def_ 18 (d := dDef "_law_pick" s__law_pick) rfl
    have F2 := fun_of (x := "_law_pick") (st := s__law_pick) F
    exact ⟨_, fd, F2, He.glo_ok X G (c.d.fact 18 (f := .glo "_law_pick") rfl), F2.binds (ps := ["draw", "some"]) fun _ _ _ _ _ _ us hl => match us, hl with | [_, _], _ => rfl⟩
  have f__law_shuffled : ∃ f fd, Fun K "_law_shuffled" "_law_shuffled" s__law_shuffled f fd ∧ mg "_law_shuffled" = some (.ref f) ∧ Binds K fd ["draw", "some"] [] := by
    obtain ⟨fd, F⟩ := c.d.def_ 19 (d := dDef "_law_shuffled" s__law_shuffled) rfl
    have F2 := fun_of (x := "_law_shuffled") (st := s__law_shuffled) F
    exact ⟨_, fd, F2, He.glo_ok X G (c.d.fact 19 (f := .glo "_law_shuffled") rfl), F2.binds (ps := ["draw", "some"]) fun _ _ _ _ _ _ us hl => match us, hl with | [_, _], _ => rfl⟩
  have f__law_pairs : ∃ f fd, Fun K "_law_pairs" "_law_pairs" s__law_pairs f fd ∧ mg "_law_pairs" = some (.ref f) ∧ Binds K fd ["draw", "labels_here"] [] := by
    obtain ⟨fd, F⟩ := c.d.def_ 20 (d := dDef "_law_pairs" s__law_pairs) rfl
    have F2 := fun_of (x := "_law_pairs") (st := s__law_pairs) F
    exact ⟨_, fd, F2, He.glo_ok X G (c.d.fact 20 (f := .glo "_law_pairs") rfl), F2.binds (ps := ["draw", "labels_here"]) fun _ _ _ _ _ _ us hl => match us, hl with | [_, _], _ => rfl⟩
  have f__law_some_labels : ∃ f fd, Fun K "_law_some_labels" "_law_some_labels" s__law_some_labels f fd ∧ mg "_law_some_labels" = some (.ref f) ∧ Binds K fd ["draw", "labels_here"] [] := by
    obtain ⟨fd, F⟩ := c.d.def_ 21 (d := dDef "_law_some_labels" s__law_some_labels) rfl
    have F2 := fun_of (x := "_law_some_labels") (st := s__law_some_labels) F
    exact ⟨_, fd, F2, He.glo_ok X G (c.d.fact 21 (f := .glo "_law_some_labels") rfl), F2.binds (ps := ["draw", "labels_here"]) fun _ _ _ _ _ _ us hl => match us, hl with | [_, _], _ => rfl⟩
  have f__law_sketch : ∃ f fd, Fun K "_law_sketch" "_law_sketch" s__law_sketch f fd ∧ mg "_law_sketch" = some (.ref f) ∧ Binds K fd ["draw", "most"] [] := by
    obtain ⟨fd, F⟩ := c.d.def_ 22 (d := dDef "_law_sketch" s__law_sketch) rfl
    have F2 := fun_of (x := "_law_sketch") (st := s__law_sketch) F
    exact ⟨_, fd, F2, He.glo_ok X G (c.d.fact 22 (f := .glo "_law_sketch") rfl), F2.binds (ps := ["draw", "most"]) fun _ _ _ _ _ _ us hl => match us, hl with | [_, _], _ => rfl⟩
  have f__law_made : ∃ f fd, Fun K "_law_made" "_law_made" s__law_made f fd ∧ mg "_law_made" = some (.ref f) ∧ Binds K fd ["sketch"] [] := by
    obtain ⟨fd, F⟩ := c.d.def_ 23 (d := dDef "_law_made" s__law_made) rfl
    have F2 := fun_of (x := "_law_made") (st := s__law_made) F
    exact ⟨_, fd, F2, He.glo_ok X G (c.d.fact 23 (f := .glo "_law_made") rfl), F2.binds (ps := ["sketch"]) fun _ _ _ _ _ _ us hl => match us, hl with | [_], _ => rfl⟩
  have f__law_break : ∃ f fd, Fun K "_law_break" "_law_break" s__law_break f fd ∧ mg "_law_break" = some (.ref f) ∧ Binds K fd ["sketch", "labelling_here"] [] := by
    obtain ⟨fd, F⟩ := c.d.def_ 24 (d := dDef "_law_break" s__law_break) rfl
    have F2 := fun_of (x := "_law_break") (st := s__law_break) F
    exact ⟨_, fd, F2, He.glo_ok X G (c.d.fact 24 (f := .glo "_law_break") rfl), F2.binds (ps := ["sketch", "labelling_here"]) fun _ _ _ _ _ _ us hl => match us, hl with | [_, _], _ => rfl⟩
  have f__law_rows : ∃ f fd, Fun K "_law_rows" "_law_rows" s__law_rows f fd ∧ mg "_law_rows" = some (.ref f) ∧ Binds K fd ["labels_here", "size"] [] := by
    obtain ⟨fd, F⟩ := c.d.def_ 25 (d := dDef "_law_rows" s__law_rows) rfl
    have F2 := fun_of (x := "_law_rows") (st := s__law_rows) F
    exact ⟨_, fd, F2, He.glo_ok X G (c.d.fact 25 (f := .glo "_law_rows") rfl), F2.binds (ps := ["labels_here", "size"]) fun _ _ _ _ _ _ us hl => match us, hl with | [_, _], _ => rfl⟩
  have f__law_ways : ∃ f fd, Fun K "_law_ways" "_law_ways" s__law_ways f fd ∧ mg "_law_ways" = some (.ref f) ∧ Binds K fd ["sketch", "size"] [] := by
    obtain ⟨fd, F⟩ := c.d.def_ 26 (d := dDef "_law_ways" s__law_ways) rfl
    have F2 := fun_of (x := "_law_ways") (st := s__law_ways) F
    exact ⟨_, fd, F2, He.glo_ok X G (c.d.fact 26 (f := .glo "_law_ways") rfl), F2.binds (ps := ["sketch", "size"]) fun _ _ _ _ _ _ us hl => match us, hl with | [_, _], _ => rfl⟩
  have f__law_sum : ∃ f fd, Fun K "_law_sum" "_law_sum" s__law_sum f fd ∧ mg "_law_sum" = some (.ref f) ∧ Binds K fd ["sketch", "size"] [] := by
    obtain ⟨fd, F⟩ := c.d.def_ 27 (d := dDef "_law_sum" s__law_sum) rfl
    have F2 := fun_of (x := "_law_sum") (st := s__law_sum) F
    exact ⟨_, fd, F2, He.glo_ok X G (c.d.fact 27 (f := .glo "_law_sum") rfl), F2.binds (ps := ["sketch", "size"]) fun _ _ _ _ _ _ us hl => match us, hl with | [_, _], _ => rfl⟩
  have ex := c.more
  unfold exAll at ex
  obtain ⟨q5, x5⟩ := He.ba ex
  obtain ⟨q4, x4⟩ := He.ba q5
  obtain ⟨q3, x3⟩ := He.ba q4
  obtain ⟨q2, x2⟩ := He.ba q3
  obtain ⟨q1, x1⟩ := He.ba q2
  have r_BadNumber : ∃ C fI msg, ErrTxt theRow.prog K mg "BadNumber" C fI "part" msg :=
    ⟨_, _, _, errTxt_of (e := ⟨"BadNumber", "part", "BadNumber.__init__", inClass (top 2) 0⟩) X G (c.err 0 rfl) q1 n_super (by decide +kernel) rfl rfl rfl (by decide +kernel) (by decide +kernel) (by decide +kernel) (by decide +kernel) (by decide +kernel) (fun _ _ _ _ _ _ _ _ _ => .of_eq rfl) (fun _ _ _ _ _ _ _ _ _ => .of_eq rfl) (fun _ => ⟨_, rfl⟩) (by decide +kernel) (by decide +kernel)⟩
  have r_BadProblem : ∃ C fI msg, ErrTxt theRow.prog K mg "BadProblem" C fI "part" msg :=
    ⟨_, _, _, errTxt_of (e := ⟨"BadProblem", "part", "BadProblem.__init__", inClass (top 3) 0⟩) X G (c.err 1 rfl) x1 n_super (by decide +kernel) rfl rfl rfl (by decide +kernel) (by decide +kernel) (by decide +kernel) (by decide +kernel) (by decide +kernel) (fun _ _ _ _ _ _ _ _ _ => .of_eq rfl) (fun _ _ _ _ _ _ _ _ _ => .of_eq rfl) (fun _ => ⟨_, rfl⟩) (by decide +kernel) (by decide +kernel)⟩
  have is_BadNumber : ∃ C, IsC K mg errsAll "RoundError" "BadNumber" C := ⟨_, isC_of X G x2⟩
  have is_BadProblem : ∃ C, IsC K mg errsAll "RoundError" "BadProblem" C := ⟨_, isC_of X G x3⟩
  have o_RingProblem : ∃ Cn, OwnIs K mg ownAll "RingProblem" Cn := ⟨_, ownIs_of X G x4⟩
  have o_PathProblem : ∃ Cn, OwnIs K mg ownAll "PathProblem" Cn := ⟨_, ownIs_of X G x5⟩
  have k_RingProblem : ∃ f fd Ca, Mk K Ca f ∧ mg "RingProblem" = some (.ref Ca) ∧ Fun K "__init__" "RingProblem.__init__" s_RingProblem f fd ∧ Binds K fd ["self", "labels", "pairs"] [] := by
    obtain ⟨fd, F⟩ := c.d.def_ 29 (d := iDef "RingProblem" "RingProblem.__init__" s_RingProblem) rfl
    have F2 := fun_of (x := "__init__") (q := "RingProblem.__init__") (st := s_RingProblem) F
    exact ⟨_, fd, _, He.mkr_ok (c.d.fact 54 (f := .mkr "RingProblem") rfl), He.glo_ok X G (c.d.fact 52 (f := .glo "RingProblem") rfl), F2, F2.binds (ps := ["self", "labels", "pairs"]) fun _ _ _ _ _ _ us hl => match us, hl with | [_, _, _], _ => rfl⟩
  have cf_RingProblem : ClsF K mg "RingProblem" ["labels", "pairs"] := by
    refine ⟨_, He.glo_ok X G (c.d.fact 52 (f := .glo "RingProblem") rfl), He.cls_ok (c.d.fact 53 (f := .cls "RingProblem") rfl), fun f hf => ?_⟩
    simp only [List.mem_cons, List.mem_nil_iff, or_false] at hf
    rcases hf with rfl | rfl
    · exact He.noat_ok (c.d.fact 55 (f := .noat "RingProblem" "labels") rfl)
    · exact He.noat_ok (c.d.fact 56 (f := .noat "RingProblem" "pairs") rfl)
  have k_PathProblem : ∃ f fd Ca, Mk K Ca f ∧ mg "PathProblem" = some (.ref Ca) ∧ Fun K "__init__" "PathProblem.__init__" s_PathProblem f fd ∧ Binds K fd ["self", "labels", "pairs", "starts", "ends"] [] := by
    obtain ⟨fd, F⟩ := c.d.def_ 30 (d := iDef "PathProblem" "PathProblem.__init__" s_PathProblem) rfl
    have F2 := fun_of (x := "__init__") (q := "PathProblem.__init__") (st := s_PathProblem) F
    exact ⟨_, fd, _, He.mkr_ok (c.d.fact 59 (f := .mkr "PathProblem") rfl), He.glo_ok X G (c.d.fact 57 (f := .glo "PathProblem") rfl), F2, F2.binds (ps := ["self", "labels", "pairs", "starts", "ends"]) fun _ _ _ _ _ _ us hl => match us, hl with | [_, _, _, _, _], _ => rfl⟩
  have cf_PathProblem : ClsF K mg "PathProblem" ["labels", "pairs", "starts", "ends"] := by
    refine ⟨_, He.glo_ok X G (c.d.fact 57 (f := .glo "PathProblem") rfl), He.cls_ok (c.d.fact 58 (f := .cls "PathProblem") rfl), fun f hf => ?_⟩
    simp only [List.mem_cons, List.mem_nil_iff, or_false] at hf
    rcases hf with rfl | rfl | rfl | rfl
    · exact He.noat_ok (c.d.fact 60 (f := .noat "PathProblem" "labels") rfl)
    · exact He.noat_ok (c.d.fact 61 (f := .noat "PathProblem" "pairs") rfl)
    · exact He.noat_ok (c.d.fact 62 (f := .noat "PathProblem" "starts") rfl)
    · exact He.noat_ok (c.d.fact 63 (f := .noat "PathProblem" "ends") rfl)
  have top : ∃ Cr, mg "RoundError" = some (.ref Cr) ∧ ∀ c ∈ errsAll, ∀ Ca, mg c = some (.ref Ca) → PySem.W.exmOne K (.ref Ca) (.ref Cr) = some true := by
    refine ⟨_, He.glo_ok X G (c.d.fact 29 (f := .glo "RoundError") rfl), fun e he Ca g => ?_⟩
    simp only [errsAll, List.mem_cons, List.mem_nil_iff, or_false] at he
    rcases he with rfl | rfl
    · have z := (He.glo_ok X G (c.d.fact 30 (f := .glo "BadNumber") rfl)).symm.trans g
      cases z
      exact He.exm_ok (c.d.fact 50 (f := .exm "BadNumber" "RoundError" true) rfl)
    · have z := (He.glo_ok X G (c.d.fact 31 (f := .glo "BadProblem") rfl)).symm.trans g
      cases z
      exact He.exm_ok (c.d.fact 51 (f := .exm "BadProblem" "RoundError" true) rfl)
  exact ⟨n_abs, n_all, n_bool, n_dict, n_int, n_isinstance, n_len, n_list, n_min, n_range, n_repr, n_set, n_sorted, n_sum, n_tuple, c_MOST_LABELS, c_MOST_HOUSES, f__law_begun, f__law_mixed, f__law_take, f__law_caught, f_is_number, f_is_between, f_is_list, f_is_tuple, f_need_between, f_is_labels, f_is_pairs, f_need_pairs, f_need_problem, f_behind_of, f_ways_to, f_starts_of, f_some_labelling, f_how_many, f__law_pick, f__law_shuffled, f__law_pairs, f__law_some_labels, f__law_sketch, f__law_made, f__law_break, f__law_rows, f__law_ways, f__law_sum, k_RingProblem, cf_RingProblem, o_RingProblem, k_PathProblem, cf_PathProblem, o_PathProblem, r_BadNumber, r_BadProblem, is_BadNumber, is_BadProblem, top⟩
theorem law_is (w : World) (mg : Str → Option Value) (fa : Addr) (h : Heap) (Y : hkAll.says w h) (G : h.Ns mainGlobals mg) (hm : mg ("law" : Str) = some (.ref fa)) : LawIs PySem.Challenge.rw_roundwright_k03_whole_least_labellings_a w 63 12 "script" mg fa h := by
  obtain ⟨K, X, c⟩ := Y
  have T := txt_of X G c
  obtain ⟨fd, F⟩ := c.d.def_ 28 (d := dDef "law" s_law) rfl
  have F2 := fun_of (x := "law") (st := s_law) F
  have eA := (He.glo_ok X G (c.d.fact 28 (f := .glo "law") rfl)).symm.trans hm
  cases eA
  obtain ⟨oc, kV, doc, pm, ct, od, an, osl, rfl, lk, hc⟩ := law_def F2 rfl
  refine ⟨K, PySem.W.fnOf "law" "law" (defArgs s_law) (defBody s_law) (defScope s_law) .none kV doc pm an (.ref (lawC K)) ct, lawC K, lawP K, @spLaw ⟨[(lawP K, qLam)]⟩ K, X, c.tab, c.out, c.hd, fun s u => .of_eq rfl, fun H a ns hl hP hS => ⟨a, ns, rfl, hS, hl, fun p hp => ?_, fun _ => rfl⟩, fun base _ _ TB => ?_⟩
  · have e := List.mem_singleton.mp hp
    subst e
    exact LamX.TabS.nil hP
  · exact @ok_law ⟨[(lawP K, qLam)]⟩ _ _ _ _ _ (by first | exact @law_true ⟨[(lawP K, qLam)]⟩ | exact law_true) T _ _ _ _ _ _ _ _ _ _ _ lk hc TB rfl
end RW
open PySem PySem.W PySem.Calls PyProof.Rows
theorem PySem.Challenge.cw_roundwright_k03_whole_least_labellings_a_holds : PySem.Challenge.rw_roundwright_k03_whole_least_labellings_a.Holds := by
  w_on; o_law
  refine HandSHeadRun.head_any (r := RW.theRow) (q := view RW.theRow.prog [39]) (H := RW.hkAll) (ob := RW.obAll) (M := 6000) (loose := RW.nmAll) (d := HandSHeadRun.topDef RW.theRow.prog 39) (kwd := []) RW.obAll_eq
    (by kernel_rfl) (fun s => by kernel_rfl) RW.runAll (by kernel_rfl) (by kernel_rfl) (by kernel_rfl) (by rfl) (by first | assumption | decide +kernel) (by decide +kernel) ⟨rfl, rfl, rfl, rfl, rfl, by decide +kernel⟩ ?hw ?hc
  case hw => w_witness2
  case hc =>
    refine RW.law_walk (l := PySem.Challenge.rw_roundwright_k03_whole_least_labellings_a) (n := 63) (k := 12) (x := "script") rfl (by decide) (by kernel_rfl) ⟨rfl, by decide, by decide⟩ fun w mg fa h Y G hm => ?_
    refine RW.law_is w mg fa h Y G ?_
    have e : (HandSHeadRun.topDef RW.theRow.prog 39).name = ("law" : PySem.Str) := by kernel_rfl
    rw [← e]
    exact hm
