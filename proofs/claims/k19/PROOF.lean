import PyProof.Rows.All
import Wide.All
import OpenK.AllK
import Wide.FinOn
import HandS.ForMost
import HandS.ForExc
import HandS.Lambda
import HandS.ExcValue
import HandS.Deep
import HandS.IsInst
import HandS.Flow
import HandS.TupAny
import HandS.Wide
import HandS.EndTab
import KE.KeyNested
import HandS.Zip
import HandS.CallSlots
import KE.DataCmp
import KE.DataEq
import HandS.TupLe
import HandS.TupMul
import HandS.More
import HandS.ExcIs
import HandS.Codes
import HandS.Style
import HandS.Words
import HandS.HeadHook1
import HandS.EndBits
import Wide.Loose
import KE.LtData
import KE.KTupSum
import KE.SortData
import HandS.MakeKwOnly
import HandS.Conv
import PySem.Challenge.RW_pursespassed_k19_whole_seals_of_several
set_option Elab.async false
set_option maxRecDepth 100000
set_option linter.all false
set_option autoImplicit false
/-! QA: the values and the heap of the evaluator, how they stand in HandS' V and Hp, the judgements. -/
namespace Q
open PySem PySem.Spec PyProof.Rows L2 LamX

/-- a value: data (tuples and frozen lists by value), an object of the abstract heap, a caught exception, a closure -/
inductive W where
  | d (x : PyData)
  | ref (i : Nat)
  | exc (c : String) (fs : List (String × PyData))
  | clo (k : Nat)
  | clos (ks : List Nat)

inductive AO where
  | lst (ws : List W)
  | dct (kvs : List (PyData × W))
  | ins (c : String) (fs : List (String × W))

structure AH where
  n : Nat
  f : Nat → Option AO

def AH.set (h : AH) (i : Nat) (o : AO) : AH := ⟨h.n, fun j => if j = i then some o else h.f j⟩
def AH.new (h : AH) (o : AO) : AH := ⟨h.n + 1, fun j => if j = h.n then some o else h.f j⟩

inductive Out (α : Type) where
  | ok (a : α) (h : AH)
  | err (c : String) (fs : List (String × PyData)) (h : AH)
  | bad

def Out.bind {α β : Type} (o : Out α) (k : α → AH → Out β) : Out β := match o with
  | .ok a h => k a h
  | .err c fs h => .err c fs h
  | .bad => .bad
def Out.to {α : Type} (o : Out α) (P : α → AH → Prop) (R : String → List (String × PyData) → AH → Prop) : Prop := match o with
  | .ok a h => P a h
  | .err c fs h => R c fs h
  | .bad => False
def Out.ofOpt {α : Type} (o : Option α) (h : AH) : Out α := match o with
  | some a => .ok a h
  | none => .bad
theorem to_bind {α β : Type} {o : Out α} {k : α → AH → Out β} {P R} : (o.bind k).to P R = o.to (fun a h => (k a h).to P R) R := by
  cases o <;> rfl
theorem Out.to_mono {α : Type} {o : Out α} {P P' : α → AH → Prop} {R R'} (x : o.to P R) (h1 : ∀ a h, P a h → P' a h) (h2 : ∀ c fs h, R c fs h → R' c fs h) : o.to P' R' := by
  cases o with
  | ok a h => exact h1 a h x
  | err c fs h => exact h2 c fs h x
  | bad => exact x
theorem to_ofOpt {α : Type} {o : Option α} {h : AH} {P : α → AH → Prop} {R} (x : (Out.ofOpt o h).to P R) : ∃ a, o = some a ∧ P a h := by
  cases o with
  | none => exact False.elim x
  | some a => exact ⟨a, rfl, x⟩

/-! ### data in the abstract heap -/
/-- a list that nobody changes any more -/
def SqF (K : PySem.W.Frag) (H : Hp) (a : Addr) (xs : List V) : Prop :=
  (∃ o, H a = some (.frz o (.lst xs))) ∨ ((∀ ys, H a ≠ some (.lst ys)) ∧ SqL K H a xs)
mutual
inductive RepD (K : PySem.W.Frag) (H : Hp) : V → PyData → Prop
  | non : RepD K H .non .none
  | bl (b : Bool) : RepD K H (.bl b) (.bool b)
  | int (i : Int) : RepD K H (.int i) (.int i)
  | str (x : Str) : RepD K H (.str x) (.str x)
  | lst {a : Addr} {o : Obj} {xs : List V} {ds : List PyData} : H a = some (.frz o (.lst xs)) → RepDs K H xs ds → RepD K H (.ref a) (.list ds)
  | tup {a : Addr} {xs : List V} {ds : List PyData} : SqT K H a xs → RepDs K H xs ds → RepD K H (.ref a) (.tuple ds)
  | dct {a : Addr} {o : Obj} : H a = some (.frz o (.dK [])) → RepD K H (.ref a) (.dict [])
inductive RepDs (K : PySem.W.Frag) (H : Hp) : List V → List PyData → Prop
  | nil : RepDs K H [] []
  | cons {v : V} {vs : List V} {d : PyData} {ds : List PyData} : RepD K H v d → RepDs K H vs ds → RepDs K H (v :: vs) (d :: ds)
end
/-- what stands for good stays -/
structure Stb (H H' : Hp) : Prop where
  tup : ∀ b xs, H b = some (.tup xs) → H' b = some (.tup xs)
  frz : ∀ b o u, H b = some (.frz o u) → H' b = some (.frz o u)
  cod : ∀ b q, H b = some (CodeO b q) → H' b = some (CodeO b q)
theorem Stb.refl (H : Hp) : Stb H H := ⟨fun _ _ h => h, fun _ _ _ h => h, fun _ _ h => h⟩
theorem Stb.trans {H H1 H2 : Hp} (a : Stb H H1) (b : Stb H1 H2) : Stb H H2 := ⟨fun c xs h => b.1 c xs (a.1 c xs h), fun c o u h => b.2 c o u (a.2 c o u h), fun c q h => b.3 c q (a.3 c q h)⟩
theorem sqT_mono {K : PySem.W.Frag} {H H' : Hp} {a : Addr} {xs : List V} (s : Stb H H') (h : SqT K H a xs) : SqT K H' a xs := by
  rcases h with (h | ⟨o, h⟩) | h
  · exact .inl (.inl (s.1 _ _ h))
  · exact .inl (.inr ⟨o, s.2 _ _ _ h⟩)
  · exact .inr h
mutual
theorem RepD.mono {K : PySem.W.Frag} {H H' : Hp} (s : Stb H H') : ∀ (d : PyData) (v : V), RepD K H v d → RepD K H' v d
  | .none, _, r => by cases r; exact .non
  | .bool b, _, r => by cases r; exact .bl b
  | .int i, _, r => by cases r; exact .int i
  | .str x, _, r => by cases r; exact .str x
  | .list ds, _, r => by
    cases r with
    | lst h1 h2 => exact .lst (s.2 _ _ _ h1) (RepDs.mono s ds _ h2)
  | .tuple ds, _, r => by
    cases r with
    | tup h1 h2 => exact .tup (sqT_mono s h1) (RepDs.mono s ds _ h2)
  | .dict kvs, _, r => by
    cases r with
    | dct h1 => exact .dct (s.2 _ _ _ h1)
theorem RepDs.mono {K : PySem.W.Frag} {H H' : Hp} (s : Stb H H') : ∀ (ds : List PyData) (vs : List V), RepDs K H vs ds → RepDs K H' vs ds
  | [], _, r => by cases r; exact .nil
  | d :: ds, _, r => by
    cases r with
    | cons h1 h2 => exact .cons (RepD.mono s d _ h1) (RepDs.mono s ds _ h2)
end
theorem RepDs.length {K : PySem.W.Frag} {H : Hp} : ∀ {ds : List PyData} {vs : List V}, RepDs K H vs ds → vs.length = ds.length
  | [], _, r => by cases r; rfl
  | d :: ds, _, r => by
    cases r with
    | cons h1 h2 => simp [RepDs.length h2]
theorem RepDs.get {K : PySem.W.Frag} {H : Hp} : ∀ {ds : List PyData} {vs : List V} {i : Nat} {d : PyData}, RepDs K H vs ds → ds[i]? = some d → ∃ v, vs[i]? = some v ∧ RepD K H v d
  | d :: ds, _, 0, _, r, e => by
    cases r with
    | cons h1 h2 => simp at e; subst e; exact ⟨_, rfl, h1⟩
  | d :: ds, _, i + 1, x, r, e => by
    cases r with
    | cons h1 h2 =>
      obtain ⟨v, e1, r1⟩ := RepDs.get (i := i) h2 (by simpa using e)
      exact ⟨v, by simpa using e1, r1⟩
  | [], _, _, _, r, e => by simp at e
theorem RepDs.append {K : PySem.W.Frag} {H : Hp} : ∀ {xs : List V} {ds : List PyData} {ys : List V} {es : List PyData}, RepDs K H xs ds → RepDs K H ys es → RepDs K H (xs ++ ys) (ds ++ es)
  | _, _, _, _, .nil, r => r
  | _, _, _, _, .cons h t, r => .cons h (RepDs.append t r)
mutual
theorem RepD.dp {K : PySem.W.Frag} {H : Hp} : ∀ (d : PyData) (v : V), RepD K H v d → d.canLay0 = true → Dp K H v d
  | .none, _, r, _ => by cases r; exact .non
  | .bool b, _, r, _ => by cases r; exact .bl b
  | .int i, _, r, _ => by cases r; exact .int i
  | .str x, _, r, _ => by cases r; exact .str x
  | .list ds, _, r, c => by
    cases r with
    | lst h1 h2 => exact .lst (.inl (.inr ⟨_, h1⟩)) (RepDs.dp ds _ h2 (by simpa [PyData.canLay0] using c))
  | .tuple ds, _, r, c => by
    cases r with
    | tup h1 h2 => exact .tup h1 (RepDs.dp ds _ h2 (by simpa [PyData.canLay0] using c))
  | .dict kvs, _, r, c => by simp [PyData.canLay0] at c
theorem RepDs.dp {K : PySem.W.Frag} {H : Hp} : ∀ (ds : List PyData) (vs : List V), RepDs K H vs ds → PyData.canLayAll0 ds = true → DpAll K H vs ds
  | [], _, r, _ => by cases r; exact .nil
  | d :: ds, _, r, c => by
    cases r with
    | cons h1 h2 =>
      simp only [PyData.canLayAll0, Bool.and_eq_true] at c
      exact .cons (RepD.dp d _ h1 c.1) (RepDs.dp ds _ h2 c.2)
end
end Q

set_option Elab.async false
set_option maxRecDepth 100000
set_option linter.all false
set_option autoImplicit false
namespace Q
open PySem PySem.Spec PyProof.Rows L2 LamX

abbrev Io := Nat → Option Addr
/-- the two that values need -/
structure Ex0 (ι : Io) (H : Hp) (ι' : Io) (H' : Hp) : Prop where
  up : ∀ i a, ι i = some a → ι' i = some a
  st : Stb H H'
theorem Ex0.trans {ι ι1 ι2 : Io} {H H1 H2 : Hp} (a : Ex0 ι H ι1 H1) (b : Ex0 ι1 H1 ι2 H2) : Ex0 ι H ι2 H2 := ⟨fun i c h => b.up i c (a.up i c h), a.st.trans b.st⟩
/-- what closures stand for -/
structure Clo where
  p : Nat → Io → Hp → V → Prop
  mono : ∀ k ι H ι' H' v, Ex0 ι H ι' H' → p k ι H v → p k ι' H' v
  non : ∀ k ι H v, p k ι H v → v ≠ .non
def Clo.no : Clo := ⟨fun _ _ _ _ => False, fun _ _ _ _ _ _ _ h => h, fun _ _ _ _ h => h.elim⟩
/-- the ground: the written part, the module's names, the tables of code objects, the closures of the frame -/
structure Gd where
  w : World
  K : PySem.W.Frag
  mg : Str → Option Value
  tabs : List (Addr × Str)
  cl : Clo
def Gd.bare (G : Gd) : Gd := { G with cl := Clo.no }
theorem bare_bare (G : Gd) : G.bare.bare = G.bare := rfl

/-- a caught exception -/
def RepX (G : Gd) (H : Hp) (c : String) (fs : List (String × PyData)) (v : V) : Prop :=
  ∃ (a C : Addr) (o : Obj) (vs : Array Value), v = .ref a ∧ G.mg (Str.ofString c) = some (.ref C) ∧ H a = some (.frz o (.ext fun _ => True)) ∧ o.cls = .ref C ∧ o.data = .fields vs ∧ o.dict = none ∧ fs = []
def RepW (G : Gd) (ι : Io) (H : Hp) : W → V → Prop
  | .d x, v => RepD G.K H v x
  | .ref i, v => ∃ a, ι i = some a ∧ v = .ref a
  | .exc c fs, v => RepX G H c fs v
  | .clo k, v => G.cl.p k ι H v
  | .clos ks, v => ∃ a o vs, v = .ref a ∧ H a = some (.frz o (.lst vs)) ∧ Paired (fun k v => G.cl.p k ι H v) ks vs
/-- something other than a table of code objects is tracked there -/
def Trk (H : Hp) (a : Addr) : Prop := ∃ o, H a = some o ∧ ∀ ps, o ≠ .tbl ps
theorem Trk.no {H : Hp} {a : Addr} (h : H a = none) : ¬ Trk H a := fun ⟨o, e, _⟩ => by
  rw [h] at e
  cases e
/-- the address map grows, what stands for good stays, and so does all that the map doesn't tell of but the tables -/
structure Ext (ι : Io) (H : Hp) (ι' : Io) (H' : Hp) : Prop where
  up : ∀ i a, ι i = some a → ι' i = some a
  st : Stb H H'
  fr : ∀ b o, H b = some o → (∀ i, ι i ≠ some b) → (∀ ps, o ≠ .tbl ps) → H' b = some o
  kp : ∀ b, Trk H b → Trk H' b
  nw : ∀ i a, ι' i = some a → ι i = some a ∨ ¬ Trk H a
theorem Ext.lo {ι ι' : Io} {H H' : Hp} (e : Ext ι H ι' H') : Ex0 ι H ι' H' := ⟨e.up, e.st⟩
theorem Ext.refl {ι : Io} {H : Hp} : Ext ι H ι H := ⟨fun _ _ h => h, Stb.refl H, fun _ _ h _ _ => h, fun _ h => h, fun _ _ h => .inl h⟩
theorem Ext.trans {ι ι1 ι2 : Io} {H H1 H2 : Hp} (a : Ext ι H ι1 H1) (b : Ext ι1 H1 ι2 H2) : Ext ι H ι2 H2 where
  up := fun i c h => b.up i c (a.up i c h)
  st := a.st.trans b.st
  fr := fun c o h n t => b.fr c o (a.fr c o h n t) (fun i z => by
    rcases a.nw i c z with q | q
    · exact n i q
    · exact q ⟨o, h, t⟩) t
  kp := fun c h => b.kp c (a.kp c h)
  nw := fun i c h => by
    rcases b.nw i c h with q | q
    · exact a.nw i c q
    · exact .inr fun z => q (a.kp c z)
theorem paired_mono {α β : Type} {F F' : α → β → Prop} (h : ∀ a b, F a b → F' a b) : ∀ {l : List α} {m : List β}, Paired F l m → Paired F' l m
  | _, _, .nil => .nil
  | _, _, .cons r t => .cons (h _ _ r) (paired_mono h t)
section
variable {G : Gd} {ι ι' : Io} {H H' : Hp} {w : W} {v : V}
theorem RepW.mono0 (e : Ex0 ι H ι' H') (r : RepW G ι H w v) : RepW G ι' H' w v := by
  cases w with
  | d x => exact RepD.mono e.st x v r
  | ref i =>
    obtain ⟨a, h1, h2⟩ := r
    exact ⟨a, e.up i a h1, h2⟩
  | exc c fs =>
    obtain ⟨a, C, o, vs, h1, h2, h3, h4⟩ := r
    exact ⟨a, C, o, vs, h1, h2, e.st.2 _ _ _ h3, h4⟩
  | clo k => exact G.cl.mono k ι H ι' H' v e r
  | clos ks =>
    obtain ⟨a, o, vs, h1, h2, h3⟩ := r
    exact ⟨a, o, vs, h1, e.st.2 _ _ _ h2, paired_mono (fun k v h => G.cl.mono k ι H ι' H' v e h) h3⟩
theorem RepW.mono (e : Ext ι H ι' H') (r : RepW G ι H w v) : RepW G ι' H' w v := r.mono0 e.lo
theorem RepW.up (r : RepW G.bare ι H w v) : RepW G ι H w v := by
  cases w with
  | d x => exact r
  | ref i => exact r
  | exc c fs => exact r
  | clo k => exact False.elim r
  | clos ks =>
    obtain ⟨a, o, vs, h1, h2, h3⟩ := r
    cases h3 with
    | nil => exact ⟨a, o, [], h1, h2, .nil⟩
    | cons p _ => exact False.elim p
/-- no closure in it -/
def W.flat : W → Bool
  | .clo _ => false
  | .clos _ => false
  | _ => true
theorem RepW.down (r : RepW G ι H w v) (f : w.flat = true) : RepW G.bare ι H w v := by
  cases w with
  | d x => exact r
  | ref i => exact r
  | exc c fs => exact r
  | clo k => cases f
  | clos ks => cases f
abbrev RepWs (G : Gd) (ι : Io) (H : Hp) : List W → List V → Prop := Paired (RepW G ι H)
theorem RepWs.mono0 {ws : List W} {vs : List V} (e : Ex0 ι H ι' H') (r : RepWs G ι H ws vs) : RepWs G ι' H' ws vs := paired_mono (fun _ _ h => RepW.mono0 e h) r
theorem RepWs.mono {ws : List W} {vs : List V} (e : Ext ι H ι' H') (r : RepWs G ι H ws vs) : RepWs G ι' H' ws vs := r.mono0 e.lo
theorem RepWs.up {ws : List W} {vs : List V} (r : RepWs G.bare ι H ws vs) : RepWs G ι H ws vs := paired_mono (fun _ _ h => RepW.up h) r
theorem RepWs.down : ∀ {ws : List W} {vs : List V}, RepWs G ι H ws vs → ws.all W.flat = true → RepWs G.bare ι H ws vs
  | _, _, .nil, _ => .nil
  | _, _, .cons r t, f => by
    simp only [List.all_cons, Bool.and_eq_true] at f
    exact .cons (RepW.down r f.1) (RepWs.down t f.2)
end

/-- a raw dict: its entries as they stand -/
def DX (a : Addr) (rs : List DictEntry) : HO := .ext fun h => ∃ o ep, h.get? a = some o ∧ o.ExactDict ∧ o.data = .dict rs.toArray ep
mutual
/-- data as a key -/
def keyD : PyData → Option NestedKey
  | .none => some .none
  | .bool b => some (.num (if b = true then 1 else 0))
  | .int i => some (.num i)
  | .str x => some (.text x)
  | .tuple xs => (keyDs xs).map .tup
  | .list _ => none
  | .dict _ => none
def keyDs : List PyData → Option (List NestedKey)
  | [] => some []
  | x :: xs => match keyD x, keyDs xs with
    | some k, some ks => some (k :: ks)
    | _, _ => none
end
/-- an entry of a dict stands for a pair -/
def RepKV (G : Gd) (ι : Io) (H : Hp) (p : PyData × W) (r : DictEntry) : Prop :=
  ∃ (k : NestedKey) (kv vv : V), keyD p.1 = some k ∧ k.depth ≤ 8 ∧ r.hash = k.hash G.w ∧ RepD G.K H kv p.1 ∧ RelV kv r.key ∧ RepW G.bare ι H p.2 vv ∧ RelV vv r.val
/-- an object of the abstract heap stands at a -/
def RepO (G : Gd) (ι : Io) (H : Hp) (a : Addr) : AO → Prop
  | .lst ws => ∃ vs, H a = some (.lst vs) ∧ RepWs G.bare ι H ws vs
  | .ins c fs => ∃ C dx fvs, G.mg (Str.ofString c) = some (.ref C) ∧ H a = some (.ins C dx fvs) ∧ Paired (fun (p : String × W) (q : Str × V) => Str.ofString p.1 = q.1 ∧ RepW G.bare ι H p.2 q.2) fs fvs
  | .dct kvs => (a == sysModules) = false ∧ kvs.length ≤ sizeLine ∧ (kvs.map fun p => keyD p.1).Nodup ∧ ∃ rs, H a = some (DX a rs) ∧ Paired (RepKV G ι H) kvs rs
structure RlH (G : Gd) (ι : Io) (h : AH) (H : Hp) : Prop where
  ob : ∀ i o, h.f i = some o → ∃ a, ι i = some a ∧ RepO G ι H a o
  lt : ∀ i a, ι i = some a → i < h.n
  inj : ∀ i j a, ι i = some a → ι j = some a → i = j
  trk : ∀ i a, ι i = some a → Trk H a
  tab : Tabs G.tabs H
abbrev Env' := List (Option W)
structure RlE (G : Gd) (ι : Io) (ρ : Env') (σ : L2.St) (H : Hp) : Prop where
  len : ρ.length = σ.length
  get : ∀ (i : Nat) (w : W), ρ[i]? = some (some w) → ∃ v, σ[i]? = some (some v) ∧ RepW G ι H w v
section
variable {G : Gd} {ι ι' : Io} {h h' : AH} {H H' : Hp} {ρ : Env'} {σ : L2.St}
theorem RlE.mono0 (e : Ex0 ι H ι' H') (r : RlE G ι ρ σ H) : RlE G ι' ρ σ H' := ⟨r.len, fun i w hw => by
  obtain ⟨v, h1, h2⟩ := r.get i w hw
  exact ⟨v, h1, h2.mono0 e⟩⟩
theorem RlE.mono (e : Ext ι H ι' H') (r : RlE G ι ρ σ H) : RlE G ι' ρ σ H' := r.mono0 e.lo
theorem RlE.set {i : Nat} {x : W} {v : V} (r : RlE G ι ρ σ H) (rv : RepW G ι H x v) : RlE G ι (ρ.set i (some x)) (σ.set i (some v)) H := ⟨by simp [r.len], fun j w hw => by
  by_cases hj : i = j
  · subst hj
    by_cases hi : i < ρ.length
    · rw [List.getElem?_set_self hi] at hw
      cases hw
      exact ⟨v, by rw [List.getElem?_set_self (by rw [← r.len]; exact hi)], rv⟩
    · rw [List.getElem?_eq_none (by simpa using hi)] at hw
      cases hw
  · rw [List.getElem?_set_ne hj] at hw
    obtain ⟨u, h1, h2⟩ := r.get j w hw
    exact ⟨u, by rw [List.getElem?_set_ne hj]; exact h1, h2⟩⟩
theorem RlE.unset {i : Nat} (r : RlE G ι ρ σ H) : RlE G ι (ρ.set i none) (σ.set i none) H := ⟨by simp [r.len], fun j w hw => by
  by_cases hj : i = j
  · subst hj
    by_cases hi : i < ρ.length
    · rw [List.getElem?_set_self hi] at hw
      cases hw
    · rw [List.getElem?_eq_none (by simpa using hi)] at hw
      cases hw
  · rw [List.getElem?_set_ne hj] at hw
    obtain ⟨u, h1, h2⟩ := r.get j w hw
    exact ⟨u, by rw [List.getElem?_set_ne hj]; exact h1, h2⟩⟩
theorem paired_fs_mono {F F' : W → V → Prop} (h : ∀ a b, F a b → F' a b) : ∀ {fs : List (String × W)} {fvs : List (Str × V)}, Paired (fun (p : String × W) (q : Str × V) => Str.ofString p.1 = q.1 ∧ F p.2 q.2) fs fvs → Paired (fun (p : String × W) (q : Str × V) => Str.ofString p.1 = q.1 ∧ F' p.2 q.2) fs fvs
  | _, _, .nil => .nil
  | _, _, .cons r t => .cons ⟨r.1, h _ _ r.2⟩ (paired_fs_mono h t)
theorem RepKV.mono0 {p : PyData × W} {r : DictEntry} (e : Ex0 ι H ι' H') (x : RepKV G ι H p r) : RepKV G ι' H' p r := by
  obtain ⟨k, kv, vv, h1, h2, h3, h4, h5, h6, h7⟩ := x
  exact ⟨k, kv, vv, h1, h2, h3, RepD.mono e.st _ _ h4, h5, h6.mono0 e, h7⟩
/-- an object stays as long as its own place does -/
theorem RepO.mono0 {a : Addr} {o : AO} (e : Ex0 ι H ι' H') (k : H' a = H a) (x : RepO G ι H a o) : RepO G ι' H' a o := by
  cases o with
  | lst ws =>
    obtain ⟨vs, h1, h2⟩ := x
    exact ⟨vs, by rw [k]; exact h1, h2.mono0 e⟩
  | ins c fs =>
    obtain ⟨C, dx, fvs, h1, h2, h3⟩ := x
    exact ⟨C, dx, fvs, h1, by rw [k]; exact h2, paired_fs_mono (fun _ _ r => r.mono0 e) h3⟩
  | dct kvs =>
    obtain ⟨h1, h2, h3, rs, h4, h5⟩ := x
    exact ⟨h1, h2, h3, rs, by rw [k]; exact h4, paired_mono (fun _ _ r => r.mono0 e) h5⟩
theorem RepO.mono {a : Addr} {o : AO} (e : Ext ι H ι' H') (k : H' a = H a) (x : RepO G ι H a o) : RepO G ι' H' a o := x.mono0 e.lo k
theorem Stb.fresh {p : Addr} {o : HO} (n : H p = none) : Stb H (upd H p o) :=
  ⟨fun b xs q => by rw [upd_ne (ne_of_none q n)]; exact q, fun b o u q => by rw [upd_ne (ne_of_none q n)]; exact q, fun b u q => by rw [upd_ne (ne_of_none q n)]; exact q⟩
theorem Tabs.fresh {T : List (Addr × Str)} {p : Addr} {o : HO} (t : Tabs T H) (n : H p = none) : Tabs T (upd H p o) := t.ext fun b u q => by rw [upd_ne (ne_of_none q n)]; exact q
theorem Ext.fresh {p : Addr} {o : HO} (n : H p = none) : Ext ι H ι (upd H p o) := ⟨fun _ _ h => h, Stb.fresh n, fun b u q _ _ => by rw [upd_ne (ne_of_none q n)]; exact q, fun b ⟨u, q, t⟩ => ⟨u, by rw [upd_ne (ne_of_none q n)]; exact q, t⟩, fun _ _ h => .inl h⟩
theorem Trk.ne {a p : Addr} (t : Trk H a) (n : H p = none) : a ≠ p := fun z => Trk.no n (by rw [← z]; exact t)
theorem Trk.upd_ne {a p : Addr} {o : HO} (t : Trk H a) (ne : a ≠ p) : Trk (upd H p o) a := by
  obtain ⟨u, q, k⟩ := t
  exact ⟨u, by rw [L2.upd_ne ne]; exact q, k⟩
/-- something new is laid that the abstract heap doesn't tell of -/
theorem RlH.fresh {p : Addr} {o : HO} (r : RlH G ι h H) (n : H p = none) : RlH G ι h (upd H p o) where
  ob := fun i o' hi => by
    obtain ⟨a, h1, h2⟩ := r.ob i o' hi
    exact ⟨a, h1, h2.mono (Ext.fresh n) (upd_ne ((r.trk i a h1).ne n))⟩
  lt := r.lt
  inj := r.inj
  trk := fun i a hi => (r.trk i a hi).upd_ne ((r.trk i a hi).ne n)
  tab := Tabs.fresh r.tab n
/-- a new object of the abstract heap -/
def Io.new (ι : Io) (n : Nat) (p : Addr) : Io := fun j => if j = n then some p else ι j
theorem Io.new_same {n : Nat} {p : Addr} : Io.new ι n p n = some p := by simp [Io.new]
theorem RlH.newExt {p : Addr} {o : HO} (r : RlH G ι h H) (n : H p = none) : Ext ι H (Io.new ι h.n p) (upd H p o) where
  up := fun i a hi => by
    have := r.lt i a hi
    unfold Io.new
    rw [if_neg (by omega)]
    exact hi
  st := Stb.fresh n
  fr := (Ext.fresh (ι := ι) n).fr
  kp := (Ext.fresh (ι := ι) n).kp
  nw := fun i a hi => by
    unfold Io.new at hi
    by_cases e : i = h.n
    · rw [if_pos e] at hi
      cases hi
      exact .inr (Trk.no n)
    · rw [if_neg e] at hi
      exact .inl hi
/-- neither a tuple nor frozen nor a table nor a code object -/
structure Loose (H : Hp) (a : Addr) : Prop where
  tup : ∀ xs, H a ≠ some (.tup xs)
  frz : ∀ b u, H a ≠ some (.frz b u)
  tbl : ∀ ps, H a ≠ some (.tbl ps)
  cod : ∀ q, H a ≠ some (CodeO a q)
theorem Loose.fresh {a : Addr} (n : H a = none) : Loose H a := ⟨fun _ z => (by rw [n] at z; cases z), fun _ _ z => (by rw [n] at z; cases z), fun _ z => (by rw [n] at z; cases z), fun _ z => by rw [n] at z; cases z⟩
theorem Stb.write {a : Addr} {o : HO} (l : Loose H a) : Stb H (upd H a o) :=
  ⟨fun b xs q => by rw [upd_ne (fun z => l.tup xs (by rw [← z]; exact q))]; exact q, fun b o u q => by rw [upd_ne (fun z => l.frz o u (by rw [← z]; exact q))]; exact q, fun b u q => by rw [upd_ne (fun z => l.cod u (by rw [z] at q; exact q))]; exact q⟩
theorem Tabs.write {T : List (Addr × Str)} {a : Addr} {o : HO} (t : Tabs T H) (l : Loose H a) : Tabs T (upd H a o) := fun p hp => by
  obtain ⟨ps, h1, h2, h3⟩ := t p hp
  refine ⟨ps, by rw [upd_ne (fun z => l.tbl ps (by rw [← z]; exact h1))]; exact h1, h2, fun pos cv hcv => ?_⟩
  obtain ⟨c, e1, e2⟩ := h3 pos cv hcv
  exact ⟨c, e1, by rw [upd_ne (fun z => l.cod p.2 (by rw [z] at e2; exact e2))]; exact e2⟩
theorem Trk.upd {a b : Addr} {o : HO} (t : Trk H b) (no : ∀ ps, o ≠ .tbl ps) : Trk (upd H a o) b := by
  by_cases z : b = a
  · subst z
    exact ⟨o, upd_same, no⟩
  · exact t.upd_ne z
theorem Ext.write {i : Nat} {a : Addr} {o : HO} (hi : ι i = some a) (l : Loose H a) (no : ∀ ps, o ≠ .tbl ps := by intro _ z; cases z) : Ext ι H ι (upd H a o) := ⟨fun _ _ h => h, Stb.write l, fun b u q n _ => by rw [upd_ne (fun z => n i (by rw [z]; exact hi))]; exact q, fun b q => q.upd no, fun _ _ h => .inl h⟩
/-- the object i is changed -/
theorem RlH.write {i : Nat} {a : Addr} {u : HO} {o : AO} (r : RlH G ι h H) (hi : ι i = some a) (l : Loose H a) (ro : RepO G ι (upd H a u) a o) (no : ∀ ps, u ≠ .tbl ps := by intro _ z; cases z) : RlH G ι (h.set i o) (upd H a u) where
  ob := fun j o' hj => by
    by_cases e : j = i
    · subst e
      simp only [AH.set, if_true] at hj
      cases hj
      exact ⟨a, hi, ro⟩
    · simp only [AH.set, if_neg e] at hj
      obtain ⟨b, h1, h2⟩ := r.ob j o' hj
      exact ⟨b, h1, h2.mono (Ext.write hi l no) (upd_ne fun z => e (r.inj j i a (z ▸ h1) hi))⟩
  lt := r.lt
  inj := r.inj
  trk := fun j b hj => (r.trk j b hj).upd no
  tab := Tabs.write r.tab l
/-- something is changed that the abstract heap doesn't tell of -/
theorem Ex0.off {a : Addr} {o : HO} (l : Loose H a) : Ex0 ι H ι (upd H a o) := ⟨fun _ _ h => h, Stb.write l⟩
theorem RlH.off {a : Addr} {o : HO} (r : RlH G ι h H) (n : ∀ j, ι j ≠ some a) (l : Loose H a) : RlH G ι h (upd H a o) where
  ob := fun j o' hj => by
    obtain ⟨b, h1, h2⟩ := r.ob j o' hj
    exact ⟨b, h1, h2.mono0 (Ex0.off l) (upd_ne fun z => n j (by rw [← z]; exact h1))⟩
  lt := r.lt
  inj := r.inj
  trk := fun j b hj => (r.trk j b hj).upd_ne fun z => n j (by rw [← z]; exact hj)
  tab := Tabs.write r.tab l
/-- something that the abstract heap didn't tell of comes into it -/
theorem RlH.into {p : Addr} {u : HO} {o : AO} (r : RlH G ι h H) (nj : ∀ j, ι j ≠ some p) (l : Loose H p) (no : ∀ ps, u ≠ .tbl ps) (ro : RepO G (Io.new ι h.n p) (upd H p u) p o) : Ex0 ι H (Io.new ι h.n p) (upd H p u) ∧ RlH G (Io.new ι h.n p) (h.new o) (upd H p u) := by
  have x : Ex0 ι H (Io.new ι h.n p) (upd H p u) := ⟨fun i a hi => by
    have := r.lt i a hi
    unfold Io.new
    rw [if_neg (by omega)]
    exact hi, Stb.write l⟩
  refine ⟨x, ⟨fun i o' hi => ?_, fun i a hi => ?_, fun i j a hi hj => ?_, fun i a hi => ?_, Tabs.write r.tab l⟩⟩
  · by_cases e : i = h.n
    · subst e
      simp only [AH.new, if_true] at hi
      cases hi
      exact ⟨p, Io.new_same, ro⟩
    · simp only [AH.new, if_neg e] at hi
      obtain ⟨a, h1, h2⟩ := r.ob i o' hi
      exact ⟨a, x.up i a h1, h2.mono0 x (upd_ne fun z => nj i (by rw [← z]; exact h1))⟩
  · show i < h.n + 1
    by_cases e : i = h.n
    · omega
    · unfold Io.new at hi
      rw [if_neg e] at hi
      have := r.lt i a hi
      omega
  · unfold Io.new at hi hj
    by_cases e : i = h.n <;> by_cases e' : j = h.n
    · omega
    · rw [if_pos e] at hi
      rw [if_neg e'] at hj
      cases hi
      exact absurd hj (nj j)
    · rw [if_neg e] at hi
      rw [if_pos e'] at hj
      cases hj
      exact absurd hi (nj i)
    · rw [if_neg e] at hi
      rw [if_neg e'] at hj
      exact r.inj i j a hi hj
  · unfold Io.new at hi
    by_cases e : i = h.n
    · rw [if_pos e] at hi
      cases hi
      exact ⟨u, upd_same, no⟩
    · rw [if_neg e] at hi
      exact (r.trk i a hi).upd no
theorem RlH.nj {p : Addr} (r : RlH G ι h H) (n : H p = none) : ∀ j, ι j ≠ some p := fun j z => Trk.no n (r.trk j p z)
theorem RlH.new {p : Addr} {u : HO} {o : AO} (r : RlH G ι h H) (n : H p = none) (ro : RepO G (Io.new ι h.n p) (upd H p u) p o) (no : ∀ ps, u ≠ .tbl ps := by intro _ z; cases z) : RlH G (Io.new ι h.n p) (h.new o) (upd H p u) := (r.into (r.nj n) (Loose.fresh n) no ro).2
theorem loose_lst {a : Addr} {xs : List V} (e : H a = some (.lst xs)) : Loose H a := ⟨fun _ z => (by rw [e] at z; cases z), fun _ _ z => (by rw [e] at z; cases z), fun _ z => (by rw [e] at z; cases z), fun _ z => by rw [e] at z; unfold CodeO at z; cases z⟩
/-- .. and it was new -/
theorem Ext.after {a : Addr} {o : HO} (x : Ext ι H ι' H') (n : ¬ Trk H a) (l : Loose H' a) (no : ∀ ps, o ≠ .tbl ps := by intro _ z; cases z) : Ext ι H ι' (upd H' a o) := ⟨x.up, x.st.trans (Stb.write l), fun b u q m t => by rw [upd_ne (fun z => n (by rw [← z]; exact ⟨u, q, t⟩))]; exact x.fr b u q m t, fun b q => (x.kp b q).upd no, x.nw⟩
theorem Ext.into {p : Addr} {u : HO} (x : Ext ι H ι' H') (lt : ∀ i a, ι' i = some a → i < h'.n) (n : ¬ Trk H p) (l : Loose H' p) (no : ∀ ps, u ≠ .tbl ps := by intro _ z; cases z) : Ext ι H (Io.new ι' h'.n p) (upd H' p u) where
  up := fun i a hi => by
    have hi := x.up i a hi
    have := lt i a hi
    unfold Io.new
    rw [if_neg (by omega)]
    exact hi
  st := x.st.trans (Stb.write l)
  fr := (x.after n l no).fr
  kp := (x.after n l no).kp
  nw := fun i a hi => by
    unfold Io.new at hi
    by_cases e : i = h'.n
    · rw [if_pos e] at hi
      cases hi
      exact .inr n
    · rw [if_neg e] at hi
      exact x.nw i a hi
theorem Ext.none_back {a : Addr} (x : Ext ι H ι' H') (n : H' a = none) : ¬ Trk H a := fun z => Trk.no n (x.kp a z)
end
end Q

set_option Elab.async false
set_option maxRecDepth 100000
set_option linter.all false
set_option autoImplicit false
namespace Q
open PySem PySem.Spec PyProof.Rows L2 LamX

abbrev SemE := Env' → AH → Out W
abbrev SemT := Env' → AH → Out Bool
abbrev SemA := Env' → AH → Out (List W)
inductive OutS where
  | nx (ρ : Env') (h : AH)
  | rt (x : W) (h : AH)
  | bk (ρ : Env') (h : AH)
  | ct (ρ : Env') (h : AH)
  | err (c : String) (fs : List (String × PyData)) (h : AH)
  | bad
abbrev SemS := Env' → AH → OutS

def okP (G : Gd) (ι : Io) (H : Hp) (Q : VK) : W → AH → Prop := fun x h' => ∀ (ι' : Io) (v : V) (H' : Hp), Ext ι H ι' H' → RlH G ι' h' H' → RepW G ι' H' x v → Q v H'
def okT (G : Gd) (ι : Io) (H : Hp) (Q : Bool → Hp → Prop) : Bool → AH → Prop := fun b h' => ∀ (ι' : Io) (H' : Hp), Ext ι H ι' H' → RlH G ι' h' H' → Q b H'
def okA (G : Gd) (ι : Io) (H : Hp) (Q : List V → Hp → Prop) : List W → AH → Prop := fun xs h' => ∀ (ι' : Io) (vs : List V) (H' : Hp), Ext ι H ι' H' → RlH G ι' h' H' → RepWs G ι' H' xs vs → Q vs H'
/-- how an exception's own dict stands (for those without attributes: none) -/
def ExD (fs : List (String × PyData)) (d : Option Addr) : Prop := fs = [] ∧ d = none
def erP (G : Gd) (ι : Io) (H : Hp) (E : XK) : String → List (String × PyData) → AH → Prop := fun c fs h' => ∀ (ι' : Io) (H' : Hp) (C : Addr) (d : Option Addr), Ext ι H ι' H' → RlH G ι' h' H' → G.mg (Str.ofString c) = some (.ref C) → ExD fs d → E (.ref C) d H'
section
variable {G : Gd} {ι ι1 : Io} {H H1 : Hp} {h1 : AH}
theorem okP.up {Q : VK} {x : W} (e : Ext ι H ι1 H1) (k : okP G ι H Q x h1) : okP G ι1 H1 Q x h1 := fun ι' v H' e' => k ι' v H' (e.trans e')
theorem okT.up {Q : Bool → Hp → Prop} {x : Bool} (e : Ext ι H ι1 H1) (k : okT G ι H Q x h1) : okT G ι1 H1 Q x h1 := fun ι' H' e' => k ι' H' (e.trans e')
theorem okA.up {Q : List V → Hp → Prop} {x : List W} (e : Ext ι H ι1 H1) (k : okA G ι H Q x h1) : okA G ι1 H1 Q x h1 := fun ι' v H' e' => k ι' v H' (e.trans e')
theorem erP.up {E : XK} {c : String} {fs : List (String × PyData)} (e : Ext ι H ι1 H1) (k : erP G ι H E c fs h1) : erP G ι1 H1 E c fs h1 := fun ι' H' C d e' => k ι' H' C d (e.trans e')
theorem okP.here {Q : VK} {x : W} {v : V} (k : okP G ι H Q x h1) (r : RlH G ι h1 H) (rv : RepW G ι H x v) : Q v H := k ι v H .refl r rv
theorem okT.here {Q : Bool → Hp → Prop} {x : Bool} (k : okT G ι H Q x h1) (r : RlH G ι h1 H) : Q x H := k ι H .refl r
theorem toUpP {Q : VK} {E : XK} {o : Out W} (e : Ext ι H ι1 H1) (k : o.to (okP G ι H Q) (erP G ι H E)) : o.to (okP G ι1 H1 Q) (erP G ι1 H1 E) := Out.to_mono k (fun _ _ z => z.up e) fun _ _ _ z => z.up e
theorem toUpT {Q : Bool → Hp → Prop} {E : XK} {o : Out Bool} (e : Ext ι H ι1 H1) (k : o.to (okT G ι H Q) (erP G ι H E)) : o.to (okT G ι1 H1 Q) (erP G ι1 H1 E) := Out.to_mono k (fun _ _ z => z.up e) fun _ _ _ z => z.up e
theorem toUpA {Q : List V → Hp → Prop} {E : XK} {o : Out (List W)} (e : Ext ι H ι1 H1) (k : o.to (okA G ι H Q) (erP G ι H E)) : o.to (okA G ι1 H1 Q) (erP G ι1 H1 E) := Out.to_mono k (fun _ _ z => z.up e) fun _ _ _ z => z.up e
end
abbrev xk (U : WX) (σ : L2.St) : XK := fun c d H' => U c d σ H'
def rdE (G : Gd) (U : WX) (m : SemE) : TE := fun σ H Q => ∃ (ι : Io) (ρ : Env') (h : AH), RlH G ι h H ∧ RlE G ι ρ σ H ∧ (m ρ h).to (okP G ι H Q) (erP G ι H (xk U σ))
def rdT (G : Gd) (U : WX) (m : SemT) : TT := fun σ H Q => ∃ (ι : Io) (ρ : Env') (h : AH), RlH G ι h H ∧ RlE G ι ρ σ H ∧ (m ρ h).to (okT G ι H Q) (erP G ι H (xk U σ))
def rdA (G : Gd) (U : WX) (m : SemA) : TA := fun σ H Q => ∃ (ι : Io) (ρ : Env') (h : AH), RlH G ι h H ∧ RlE G ι ρ σ H ∧ (m ρ h).to (okA G ι H Q) (erP G ι H (xk U σ))
def stP (G : Gd) (ι : Io) (H : Hp) (U : WX) (D : Ends) : OutS → Prop
  | .nx ρ' h' => ∀ (ι' : Io) (σ' : L2.St) (H' : Hp), Ext ι H ι' H' → RlH G ι' h' H' → RlE G ι' ρ' σ' H' → D.nx σ' H'
  | .rt x h' => ∀ (ι' : Io) (v : V) (H' : Hp), Ext ι H ι' H' → RlH G ι' h' H' → RepW G ι' H' x v → D.rt v H'
  | .bk ρ' h' => ∀ (ι' : Io) (σ' : L2.St) (H' : Hp), Ext ι H ι' H' → RlH G ι' h' H' → RlE G ι' ρ' σ' H' → D.bk σ' H'
  | .ct ρ' h' => ∀ (ι' : Io) (σ' : L2.St) (H' : Hp), Ext ι H ι' H' → RlH G ι' h' H' → RlE G ι' ρ' σ' H' → D.ct σ' H'
  | .err c fs h' => ∀ (ι' : Io) (σ' : L2.St) (H' : Hp) (C : Addr) (d : Option Addr), Ext ι H ι' H' → RlH G ι' h' H' → G.mg (Str.ofString c) = some (.ref C) → ExD fs d → U (.ref C) d σ' H'
  | .bad => False
theorem stP.up {G : Gd} {ι ι1 : Io} {H H1 : Hp} {U : WX} {D : Ends} {o : OutS} (e : Ext ι H ι1 H1) (k : stP G ι H U D o) : stP G ι1 H1 U D o := by
  cases o with
  | nx ρ h => exact fun ι' σ' H' e' => k ι' σ' H' (e.trans e')
  | rt x h => exact fun ι' v H' e' => k ι' v H' (e.trans e')
  | bk ρ h => exact fun ι' σ' H' e' => k ι' σ' H' (e.trans e')
  | ct ρ h => exact fun ι' σ' H' e' => k ι' σ' H' (e.trans e')
  | err c fs h => exact fun ι' σ' H' C d e' => k ι' σ' H' C d (e.trans e')
  | bad => exact k
def rdS (G : Gd) (U : WX) (m : SemS) : TS := fun D σ H => ∃ (ι : Io) (ρ : Env') (h : AH), RlH G ι h H ∧ RlE G ι ρ σ H ∧ stP G ι H U D (m ρ h)
/-- what holds of the context of any piece of a body -/
structure Cg (G : Gd) (X : Cx) : Prop where
  K : X.K = G.K
  mg : X.mg = G.mg
  w : X.w = G.w
  calm : X.calm = true
  nd : X.N.Nodup
  po : PassesOwn (model X.prog X.w) X.A X.env X.xe
def JE (G : Gd) (X : Cx) (m : SemE) (e : Expr) : Prop := ∀ U : WX, Takes X U → PE X e (rdE G U m)
def JT (G : Gd) (X : Cx) (m : SemT) (e : Expr) : Prop := ∀ U : WX, Takes X U → PT X e (rdT G U m)
def JW (G : Gd) (X : Cx) (m : SemT) (e : Expr) : Prop := ∀ U : WX, Takes X U → PW X e (rdT G U m)
def JA (G : Gd) (X : Cx) (m : SemA) (es : List Expr) : Prop := ∀ U : WX, Takes X U → PA X es (rdA G U m)
def JS (G : Gd) (X : Cx) (m : SemS) (st : Stmt) : Prop := ∀ U : WX, Takes X U → PS X st (rdS G U m)
def JSs (G : Gd) (X : Cx) (m : SemS) (st : List Stmt) : Prop := ∀ U : WX, Takes X U → PSs X st (rdS G U m)
theorem _root_.L2.PE.imp {X : Cx} {e : Expr} {t t' : TE} (p : PE X e t) (h : ∀ σ H Q, t' σ H Q → t σ H Q) : PE X e t' := ⟨fun pins s σ H Q I q => p.run pins s σ H Q I (h σ H Q q)⟩
theorem _root_.L2.PT.imp {X : Cx} {e : Expr} {t t' : TT} (p : PT X e t) (h : ∀ σ H Q, t' σ H Q → t σ H Q) : PT X e t' := ⟨fun pins s σ H Q I q => p.run pins s σ H Q I (h σ H Q q)⟩
theorem _root_.L2.PW.imp {X : Cx} {e : Expr} {t t' : TT} (p : PW X e t) (h : ∀ σ H Q, t' σ H Q → t σ H Q) : PW X e t' := ⟨fun wh pins s σ H Q I q => p.run wh pins s σ H Q I (h σ H Q q)⟩
theorem _root_.L2.PA.imp {X : Cx} {es : List Expr} {t t' : TA} (p : PA X es t) (h : ∀ σ H Q, t' σ H Q → t σ H Q) : PA X es t' := ⟨fun pos pins s σ H Q I q => p.run pos pins s σ H Q I (h σ H Q q)⟩
theorem _root_.L2.PS.imp {X : Cx} {st : Stmt} {t t' : TS} (p : PS X st t) (h : ∀ D σ H, t' D σ H → t D σ H) : PS X st t' := ⟨fun pins s σ H D I q => p.run pins s σ H D I (h D σ H q)⟩
theorem _root_.L2.PSs.imp {X : Cx} {st : List Stmt} {t t' : TS} (p : PSs X st t) (h : ∀ D σ H, t' D σ H → t D σ H) : PSs X st t' := ⟨fun pins s σ H D I q => p.run pins s σ H D I (h D σ H q)⟩
/-- one value, then more -/
theorem rd_bind {G : Gd} {U : WX} {ma : SemE} {k : W → SemE} {σ : L2.St} {H : Hp} {Q : VK} {R : VK} (h : rdE G U (fun ρ h => (ma ρ h).bind fun x h1 => k x ρ h1) σ H Q)
    (hk : ∀ (ι ι1 : Io) (ρ : Env') (x : W) (h1 : AH) (v : V) (H1 : Hp), Ext ι H ι1 H1 → RlH G ι1 h1 H1 → RlE G ι1 ρ σ H1 → RepW G ι1 H1 x v → (k x ρ h1).to (okP G ι1 H1 Q) (erP G ι1 H1 (xk U σ)) → R v H1) : rdE G U ma σ H R := by
  obtain ⟨ι, ρ, h0, rh, re, m⟩ := h
  rw [to_bind] at m
  exact ⟨ι, ρ, h0, rh, re, Out.to_mono m (fun x h1 z ι1 v H1 e1 r1 v1 => hk ι ι1 ρ x h1 v H1 e1 r1 (re.mono e1) v1 (toUpP e1 z)) fun _ _ _ z => z⟩
/-- the same by the environment's own reading -/
theorem rd_of {G : Gd} {U : WX} {m : SemE} {σ : L2.St} {H : Hp} {Q : VK} {ι : Io} {ρ : Env'} {h : AH} (rh : RlH G ι h H) (re : RlE G ι ρ σ H) (k : (m ρ h).to (okP G ι H Q) (erP G ι H (xk U σ))) : rdE G U m σ H Q := ⟨ι, ρ, h, rh, re, k⟩
/-! ### names, constants -/
def eVar (i : Nat) : SemE := fun ρ h => match ρ[i]? with
  | some (some x) => .ok x h
  | _ => .bad
def eC (x : PyData) : SemE := fun _ h => .ok (.d x) h
section
variable {G : Gd} {X : Cx} {pos : Pos}
theorem je_var (i : Nat) {x : Str} (hN : X.N[i]? = some x := by rfl) (hv : Vis X.env.scope x := by first | exact Or.inl rfl | exact Or.inr (Or.inl rfl) | exact Or.inr (Or.inr rfl)) (hd : (x == ("__debug__" : Str)) = false := by decide) (hcd : (x == ("__classdict__" : Str)) = false := by decide) : JE G X (eVar i) (.Name x pos) := fun U _ =>
  (pe_var hN hv hd hcd).imp fun σ H Q h => by
    obtain ⟨ι, ρ, h0, rh, re, m⟩ := h
    unfold eVar at m
    split at m
    · rename_i w hw
      obtain ⟨v, e, r⟩ := re.get i w hw
      exact ⟨v, e, okP.here m rh r⟩
    · exact m.elim
theorem je_int {i : Int} {j : Nat} : JE G X (eC (.int i)) (.Constant (.int i) j pos) := fun U _ => pe_int.imp fun σ H Q ⟨ι, ρ, h0, rh, re, m⟩ => okP.here m rh (.int i)
theorem je_bool {i : Bool} {j : Nat} : JE G X (eC (.bool i)) (.Constant (.bool i) j pos) := fun U _ => pe_bl.imp fun σ H Q ⟨ι, ρ, h0, rh, re, m⟩ => okP.here m rh (.bl i)
theorem je_none {j : Nat} : JE G X (eC .none) (.Constant .none j pos) := fun U _ => pe_non.imp fun σ H Q ⟨ι, ρ, h0, rh, re, m⟩ => okP.here m rh .non
theorem je_str {x : Str} {j : Nat} : JE G X (eC (.str x)) (.Constant (.str x) j pos) := fun U _ => pe_str.imp fun σ H Q ⟨ι, ρ, h0, rh, re, m⟩ => okP.here m rh (.str x)
/-- a whole number of the module -/
theorem je_globI {x : Str} {i : Int} {u : Value} (hg : Gl X x) (hm : X.mg x = some u) (r : RelV (.int i) u) (hd : (x == ("__debug__" : Str)) = false := by decide) : JE G X (eC (.int i)) (.Name x pos) := fun U _ => (pe_glob hg hm r hd).imp fun σ H Q ⟨ι, ρ, h0, rh, re, m⟩ => okP.here m rh (.int i)
/-! ### operators by their values -/
abbrev Op1 := W → AH → Option W
abbrev Op2 := W → W → AH → Option W
def eOp (o : Op2) (a b : SemE) : SemE := fun ρ h => (a ρ h).bind fun x h1 => (b ρ h1).bind fun y h2 => .ofOpt (o x y h2) h2
def eUn (o : Op1) (a : SemE) : SemE := fun ρ h => (a ρ h).bind fun x h1 => .ofOpt (o x h1) h1
/-- an operator of the model does what the semantic one says -/
def OpS (G : Gd) (X : Cx) (f : Value → Value → Sem Value) (o : Op2) : Prop := ∃ r : R2, OpR X f r ∧ ∀ (ι : Io) (h : AH) (H : Hp) (x y z : W) (u v : V) (Q : VK), RlH G ι h H → RepW G ι H x u → RepW G ι H y v → o x y h = some z → okP G ι H Q z h → r u v H Q
def UnS (G : Gd) (X : Cx) (f : Value → Sem Value) (o : Op1) : Prop := ∃ r : V → Hp → VK → Prop, UnR X f r ∧ ∀ (ι : Io) (h : AH) (H : Hp) (x z : W) (u : V) (Q : VK), RlH G ι h H → RepW G ι H x u → o x h = some z → okP G ι H Q z h → r u H Q
theorem op_red {U : WX} {ma mb : SemE} {o : Op2} {r : R2} {σ : L2.St} {H : Hp} {Q : VK} (hr : ∀ (ι : Io) (h : AH) (H : Hp) (x y z : W) (u v : V) (Q : VK), RlH G ι h H → RepW G ι H x u → RepW G ι H y v → o x y h = some z → okP G ι H Q z h → r u v H Q)
    (h : rdE G U (eOp o ma mb) σ H Q) : tOp r (rdE G U ma) (rdE G U mb) σ H Q := by
  refine rd_bind (k := fun x ρ h1 => (mb ρ h1).bind fun y h2 => .ofOpt (o x y h2) h2) h fun ι ι1 ρ x h1 v H1 e1 r1 re1 v1 m1 => ?_
  rw [to_bind] at m1
  refine ⟨ι1, ρ, h1, r1, re1, Out.to_mono m1 (fun y h2 z ι2 u H2 e2 r2 u2 => ?_) fun _ _ _ z => z⟩
  obtain ⟨q, eq, k⟩ := to_ofOpt z
  exact hr ι2 h2 H2 x y q v u Q r2 (v1.mono e2) u2 eq (k.up e2)
theorem je_op {op : Operator} {o : Op2} {a b : Expr} {ma mb : SemE} (ho : OpS G X (binaryOp op) o) (ha : JE G X ma a) (hb : JE G X mb b) : JE G X (eOp o ma mb) (.BinOp a op b pos) := fun U t => by
  obtain ⟨r, h1, h2⟩ := ho
  exact (pe_op h1 (ha U t) (hb U t)).imp fun σ H Q h => op_red h2 h
theorem je_cmp {op : CmpOp} {o : Op2} {a b : Expr} {ma mb : SemE} (ho : OpS G X (compareOp op) o) (ha : JE G X ma a) (hb : JE G X mb b) (hm : behindInMarks op b = false := by first | exact nomark _ | rfl) : JE G X (eOp o ma mb) (.Compare a [op] [b] pos) := fun U t => by
  obtain ⟨r, h1, h2⟩ := ho
  exact (pe_cmpR h1 (ha U t) (hb U t) hm).imp fun σ H Q h => op_red h2 h
theorem je_un {op : UnaryOp} {o : Op1} {a : Expr} {ma : SemE} (ho : UnS G X (unaryOp op) o) (ha : JE G X ma a) : JE G X (eUn o ma) (.UnaryOp op a pos) := fun U t => by
  obtain ⟨r, h1, h2⟩ := ho
  refine (pe_un h1 (ha U t)).imp fun σ H Q h => ?_
  refine rd_bind (k := fun x ρ h1 => .ofOpt (o x h1) h1) h fun ι ι1 ρ x h1 v H1 e1 r1 re1 v1 m1 => ?_
  obtain ⟨q, eq, k⟩ := to_ofOpt m1
  exact h2 ι1 h1 H1 x q v Q r1 v1 eq k
end
end Q

set_option Elab.async false
set_option maxRecDepth 100000
set_option linter.all false
set_option autoImplicit false
namespace Q
open PySem PySem.Spec PyProof.Rows L2 LamX

/-! ### a list is frozen for good -/
def frzO (xs : List V) (o : Obj) : HO := .frz o (.lst xs)
theorem _root_.L2.Inv.frz {X : Cx} {pins : List (Addr × Obj)} {σ : L2.St} {H : Hp} {s : Shared} {a : Addr} {xs : List V} (I : Inv X pins σ H s) (ha : H a = some (.lst xs)) : ∃ o, Inv X pins σ (upd H a (frzO xs o)) s := by
  obtain ⟨z, its, n, rv, e⟩ := I.hok a _ ha
  refine ⟨{ cls := .type "list", data := .seq its.toArray n }, ?_⟩
  have ne : ∀ b u, H b = some u → u ≠ .lst xs → b ≠ a := fun b u q d z => by
    rw [z, ha] at q
    exact d (Option.some.inj q).symm
  have ne0 : ∀ b, H b = none → b ≠ a := fun b q z => by
    rw [z, ha] at q
    cases q
  refine I.un (t' := s.toks) (h' := s.heap) (H' := upd H a (frzO xs _)) ⟨fun b o q _ _ _ => q, fun b o q _ _ _ => ⟨o.slots, q⟩, fun b o q n _ => by rw [upd_ne (ne0 b n)]; exact n, fun b o q _ => ⟨o, q⟩, fun b ys q => by rw [upd_ne (ne b _ q (by intro z; cases z))]; exact q,
    fun b o u q => by rw [upd_ne (ne b _ q (by intro z; cases z))]; exact q, fun b ps q => ⟨#[], by rw [upd_ne (ne b _ q (by intro z; cases z)), q]; simp⟩⟩ fun b u q => ?_
  by_cases hb : b = a
  · subst hb
    rw [upd_same] at q
    cases q
    exact ⟨e, z, its, n, rv, e⟩
  · rw [upd_ne hb] at q
    exact (I.hok b u q).stay (fun c v _ r => r) (fun c r => by rw [upd_ne (ne c _ r (by intro z; cases z))]; exact r) fun c ys r => by rw [upd_ne (ne c _ r (by intro z; cases z))]; exact r
/-- what was got may be frozen -/
def tFrz (t : TE) : TE := fun σ H Q => t σ H fun v H' => Q v H' ∨ ∃ a xs, v = .ref a ∧ H' a = some (.lst xs) ∧ ∀ o, Q v (upd H' a (frzO xs o))
theorem pe_frz {X : Cx} {e : Expr} {t : TE} (p : PE X e t) : PE X e (tFrz t) := ⟨fun pins s σ H Q I h => thn (p.run pins s σ H _ I h) fun u s1 ⟨v, H1, I1, r1, q1⟩ => by
  rcases q1 with q | ⟨a, xs, e1, h1, q⟩
  · exact ⟨v, H1, I1, r1, q⟩
  · obtain ⟨o, J⟩ := I1.frz h1
    exact ⟨v, _, J, r1, q o⟩⟩
theorem upd2 {H : Hp} {a : Addr} {o u : HO} : upd (upd H a o) a u = upd H a u := upd_upd

/-! ### all of them data -/
def allD : List W → Option (List PyData)
  | [] => some []
  | .d x :: ws => (allD ws).map (x :: ·)
  | _ :: _ => none
theorem allD_rep {G : Gd} {ι : Io} {H : Hp} : ∀ {ws : List W} {vs : List V} {ds : List PyData}, allD ws = some ds → RepWs G ι H ws vs → RepDs G.K H vs ds
  | [], _, ds, e, r => by
    cases r
    cases (Option.some.inj e)
    exact .nil
  | .d x :: ws, _, ds, e, r => by
    cases r with
    | cons r1 r2 =>
      cases q : allD ws with
      | none => simp [allD, q] at e
      | some es =>
        simp [allD, q] at e
        subst e
        exact .cons r1 (allD_rep q r2)
  | .ref _ :: _, _, _, e, _ => by simp [allD] at e
  | .exc _ _ :: _, _, _, e, _ => by simp [allD] at e
  | .clo _ :: _, _, _, e, _ => by simp [allD] at e
  | .clos _ :: _, _, _, e, _ => by simp [allD] at e
theorem allD_map (ds : List PyData) : allD (ds.map W.d) = some ds := by
  induction ds with
  | nil => rfl
  | cons d ds ih => simp [allD, ih]
theorem rep_map {G : Gd} {ι : Io} {H : Hp} : ∀ {ds : List PyData} {vs : List V}, RepDs G.K H vs ds → RepWs G ι H (ds.map W.d) vs
  | _, _, .nil => .nil
  | _, _, .cons r t => .cons r (rep_map t)

section
variable {G : Gd} {X : Cx} {pos : Pos} {a b c e : Expr} {es rest : List Expr} {m ma mb mc : SemE} {ta tb tc : SemT} {ms : SemA}
/-! ### and, or, not, if .. else -/
def eAnd (ma mb : SemE) : SemE := fun ρ h => (ma ρ h).bind fun x h1 => match x with
  | .d (.bool true) => mb ρ h1
  | .d (.bool false) => .ok (.d (.bool false)) h1
  | _ => .bad
def eOr (ma mb : SemE) : SemE := fun ρ h => (ma ρ h).bind fun x h1 => match x with
  | .d (.bool true) => .ok (.d (.bool true)) h1
  | .d (.bool false) => mb ρ h1
  | _ => .bad
def eNot (ma : SemE) : SemE := fun ρ h => (ma ρ h).bind fun x h1 => match x with
  | .d (.bool b) => .ok (.d (.bool (!b))) h1
  | _ => .bad
def eIf (t : SemT) (ma mb : SemE) : SemE := fun ρ h => (t ρ h).bind fun b h1 => if b = true then ma ρ h1 else mb ρ h1
def tOf (ma : SemE) : SemT := fun ρ h => (ma ρ h).bind fun x h1 => match x with
  | .d (.bool b) => .ok b h1
  | _ => .bad
def tAndS (ta tb : SemT) : SemT := fun ρ h => (ta ρ h).bind fun b h1 => if b = true then tb ρ h1 else .ok false h1
def tOrS (ta tb : SemT) : SemT := fun ρ h => (ta ρ h).bind fun b h1 => if b = true then .ok true h1 else tb ρ h1
def tNotS (ta : SemT) : SemT := fun ρ h => (ta ρ h).bind fun b h1 => .ok (!b) h1
theorem je_one {op : BoolOp} (ha : JE G X m a) : JE G X m (.BoolOp op [a] pos) := fun U t => pe_one (ha U t)
theorem je_and (ha : JE G X ma a) (hb : JE G X mb (.BoolOp .And (b :: rest) pos)) : JE G X (eAnd ma mb) (.BoolOp .And (a :: b :: rest) pos) := fun U t => (pe_and (ha U t) (hb U t)).imp fun σ H Q h => by
  refine rd_bind h fun ι ι1 ρ x h1 v H1 e1 r1 re1 v1 m1 => ?_
  split at m1
  · cases v1
    exact ⟨true, rfl, ⟨ι1, ρ, h1, r1, re1, m1⟩⟩
  · cases v1
    exact ⟨false, rfl, okP.here m1 r1 (.bl false)⟩
  · exact m1.elim
theorem je_or (ha : JE G X ma a) (hb : JE G X mb (.BoolOp .Or (b :: rest) pos)) : JE G X (eOr ma mb) (.BoolOp .Or (a :: b :: rest) pos) := fun U t => (pe_or (ha U t) (hb U t)).imp fun σ H Q h => by
  refine rd_bind h fun ι ι1 ρ x h1 v H1 e1 r1 re1 v1 m1 => ?_
  split at m1
  · cases v1
    exact ⟨true, rfl, okP.here m1 r1 (.bl true)⟩
  · cases v1
    exact ⟨false, rfl, ⟨ι1, ρ, h1, r1, re1, m1⟩⟩
  · exact m1.elim
theorem je_not (ha : JE G X ma a) : JE G X (eNot ma) (.UnaryOp .Not a pos) := fun U t => (pe_not (ha U t)).imp fun σ H Q h => by
  refine rd_bind h fun ι ι1 ρ x h1 v H1 e1 r1 re1 v1 m1 => ?_
  split at m1
  · rename_i b
    cases v1
    exact ⟨b, rfl, okP.here m1 r1 (.bl _)⟩
  · exact m1.elim
theorem rdT_of {U : WX} {σ : L2.St} {H : Hp} {Q : Bool → Hp → Prop} {k : Bool → Env' → AH → Out W} {R : VK} {t : SemT} (h : rdE G U (fun ρ h => (t ρ h).bind fun b h1 => k b ρ h1) σ H R) (hk : ∀ (ι1 : Io) (ρ : Env') (b : Bool) (h1 : AH) (H1 : Hp), RlH G ι1 h1 H1 → RlE G ι1 ρ σ H1 → (k b ρ h1).to (okP G ι1 H1 R) (erP G ι1 H1 (xk U σ)) → Q b H1) : rdT G U t σ H Q := by
  obtain ⟨ι, ρ, h0, rh, re, m⟩ := h
  rw [to_bind] at m
  exact ⟨ι, ρ, h0, rh, re, Out.to_mono m (fun b h1 z ι1 H1 e1 r1 => hk ι1 ρ b h1 H1 r1 (re.mono e1) (toUpP e1 z)) fun _ _ _ z => z⟩
theorem je_if (hc : JT G X tc c) (ha : JE G X ma a) (hb : JE G X mb b) : JE G X (eIf tc ma mb) (.IfExp c a b pos) := fun U t => (pe_ifExp (hc U t) (ha U t) (hb U t)).imp fun σ H Q h => by
  refine rdT_of (k := fun b ρ h1 => if b = true then ma ρ h1 else mb ρ h1) h fun ι1 ρ b h1 H1 r1 re1 m1 => ?_
  cases b with
  | true => exact ⟨ι1, ρ, h1, r1, re1, m1⟩
  | false => exact ⟨ι1, ρ, h1, r1, re1, m1⟩
theorem tOf_red {U : WX} {σ : L2.St} {H : Hp} {Q : Bool → Hp → Prop} (h : rdT G U (tOf ma) σ H Q) : rdE G U ma σ H fun x H1 => ∃ k, x = .bl k ∧ Q k H1 := by
  obtain ⟨ι, ρ, h0, rh, re, m⟩ := h
  unfold tOf at m
  rw [to_bind] at m
  refine ⟨ι, ρ, h0, rh, re, Out.to_mono m (fun x h1 z ι1 v H1 e1 r1 v1 => ?_) fun _ _ _ z => z⟩
  split at z
  · rename_i b
    cases v1
    exact ⟨b, rfl, z ι1 H1 e1 r1⟩
  · exact z.elim
theorem jt_val (ha : JE G X ma a) (he : ∀ whole, isTrue a X.env whole = (do let v ← whole; standAt a.pos; holding [v] (truthy v)) := by intro _; rfl) : JT G X (tOf ma) a := fun U t => (pt_val (ha U t) he).imp fun σ H Q h => tOf_red h
theorem jt_cmp {op : CmpOp} {o : Op2} (ho : OpS G X (compareOp op) o) (ha : JE G X ma a) (hb : JE G X mb b) (hm : behindInMarks op b = false := by first | exact nomark _ | rfl) : JT G X (tOf (eOp o ma mb)) (.Compare a [op] [b] pos) := fun U t => by
  obtain ⟨r, h1, h2⟩ := ho
  exact (pt_cmpR h1 (ha U t) (hb U t) hm).imp fun σ H Q h => op_red h2 (tOf_red h)
theorem rdT_bind {U : WX} {σ : L2.St} {H : Hp} {Q R : Bool → Hp → Prop} {k : Bool → Env' → AH → Out Bool} {t : SemT} (h : rdT G U (fun ρ h => (t ρ h).bind fun b h1 => k b ρ h1) σ H R) (hk : ∀ (ι1 : Io) (ρ : Env') (b : Bool) (h1 : AH) (H1 : Hp), RlH G ι1 h1 H1 → RlE G ι1 ρ σ H1 → (k b ρ h1).to (okT G ι1 H1 R) (erP G ι1 H1 (xk U σ)) → Q b H1) : rdT G U t σ H Q := by
  obtain ⟨ι, ρ, h0, rh, re, m⟩ := h
  rw [to_bind] at m
  exact ⟨ι, ρ, h0, rh, re, Out.to_mono m (fun b h1 z ι1 H1 e1 r1 => hk ι1 ρ b h1 H1 r1 (re.mono e1) (toUpT e1 z)) fun _ _ _ z => z⟩
theorem jt_pw (h : JW G X ta a) : JT G X ta a := fun U t => (h U t).pt
theorem jw_and1 (ha : JT G X ta a) : JW G X ta (.BoolOp .And [a] pos) := fun U t => pw_and1 (ha U t)
theorem jw_or1 (ha : JT G X ta a) : JW G X ta (.BoolOp .Or [a] pos) := fun U t => pw_or1 (ha U t)
theorem jw_and (ha : JT G X ta a) (hb : JW G X tb (.BoolOp .And (b :: rest) pos)) : JW G X (tAndS ta tb) (.BoolOp .And (a :: b :: rest) pos) := fun U t => (pw_and (ha U t) (hb U t)).imp fun σ H Q h => by
  refine rdT_bind (k := fun b ρ h1 => if b = true then tb ρ h1 else .ok false h1) h fun ι1 ρ b h1 H1 r1 re1 m1 => ?_
  cases b with
  | true => exact ⟨ι1, ρ, h1, r1, re1, m1⟩
  | false => exact okT.here m1 r1
theorem jw_or (ha : JT G X ta a) (hb : JW G X tb (.BoolOp .Or (b :: rest) pos)) : JW G X (tOrS ta tb) (.BoolOp .Or (a :: b :: rest) pos) := fun U t => (pw_or (ha U t) (hb U t)).imp fun σ H Q h => by
  refine rdT_bind (k := fun b ρ h1 => if b = true then .ok true h1 else tb ρ h1) h fun ι1 ρ b h1 H1 r1 re1 m1 => ?_
  cases b with
  | true => exact okT.here m1 r1
  | false => exact ⟨ι1, ρ, h1, r1, re1, m1⟩
theorem jt_not (ha : JT G X ta a) : JT G X (tNotS ta) (.UnaryOp .Not a pos) := fun U t => (pt_not (ha U t)).imp fun σ H Q h => by
  exact rdT_bind (k := fun b ρ h1 => .ok (!b) h1) h fun ι1 ρ b h1 H1 r1 re1 m1 => okT.here m1 r1
/-! ### arguments, displays -/
def aNil : SemA := fun _ h => .ok [] h
def aCons (m : SemE) (ms : SemA) : SemA := fun ρ h => (m ρ h).bind fun x h1 => (ms ρ h1).bind fun xs h2 => .ok (x :: xs) h2
theorem ja_nil : JA G X aNil [] := fun U _ => pa_nil.imp fun σ H Q ⟨ι, ρ, h0, rh, re, m⟩ => m ι [] H .refl rh .nil
theorem ja_cons (ha : JE G X m e) (hr : JA G X ms es) (hs : starEach (e :: es) X.env = (false, eval e X.env) :: starEach es X.env := by rfl) : JA G X (aCons m ms) (e :: es) := fun U t => (pa_cons (ha U t) (hr U t) hs).imp fun σ H Q h => by
  obtain ⟨ι, ρ, h0, rh, re, q⟩ := h
  unfold aCons at q
  rw [to_bind] at q
  refine ⟨ι, ρ, h0, rh, re, Out.to_mono q (fun x h1 z ι1 v H1 e1 r1 v1 => ?_) fun _ _ _ z => z⟩
  rw [to_bind] at z
  refine ⟨ι1, ρ, h1, r1, re.mono e1, Out.to_mono z (fun xs h2 z2 ι2 vs H2 e2 r2 v2 => ?_) fun _ _ _ z2 => z2.up e1⟩
  exact z2 ι2 _ H2 (e1.trans e2) r2 (.cons (v1.mono e2) v2)
/-- arguments, then something of them -/
theorem rdA_bind {U : WX} {σ : L2.St} {H : Hp} {Q : VK} {k : List W → AH → Out W} {R : List V → Hp → Prop} (h : rdE G U (fun ρ h => (ms ρ h).bind fun xs h1 => k xs h1) σ H Q)
    (hk : ∀ (ι1 : Io) (xs : List W) (h1 : AH) (vs : List V) (H1 : Hp), RlH G ι1 h1 H1 → RepWs G ι1 H1 xs vs → (k xs h1).to (okP G ι1 H1 Q) (erP G ι1 H1 (xk U σ)) → R vs H1) : rdA G U ms σ H R := by
  obtain ⟨ι, ρ, h0, rh, re, m⟩ := h
  rw [to_bind] at m
  exact ⟨ι, ρ, h0, rh, re, Out.to_mono m (fun xs h1 z ι1 vs H1 e1 r1 v1 => hk ι1 xs h1 vs H1 r1 v1 (toUpP e1 z)) fun _ _ _ z => z⟩
def eTup (ms : SemA) : SemE := fun ρ h => (ms ρ h).bind fun xs h1 => .ofOpt ((allD xs).bind fun ds => if ds.length ≤ 1000 then some (.d (.tuple ds)) else none) h1
def eLstD (ms : SemA) : SemE := fun ρ h => (ms ρ h).bind fun xs h1 => .ofOpt ((allD xs).bind fun ds => if ds.length ≤ 1000 then some (.d (.list ds)) else none) h1
def eLstH (ms : SemA) : SemE := fun ρ h => (ms ρ h).bind fun xs h1 => if (xs.all W.flat = true ∧ xs.length ≤ 1000) then .ok (.ref h1.n) (h1.new (.lst xs)) else .bad
theorem line1000 {n : Nat} (h : n ≤ 1000) : n ≤ sizeLine := Nat.le_of_lt (small1000 h)
theorem display_D {f : List PyData → PyData} {xs : List W} {h1 : AH} {P R} (m1 : (Out.ofOpt ((allD xs).bind fun ds => if ds.length ≤ 1000 then some (W.d (f ds)) else none) h1).to P R) : ∃ ds, allD xs = some ds ∧ ds.length ≤ 1000 ∧ P (.d (f ds)) h1 := by
  obtain ⟨q, eq, k⟩ := to_ofOpt m1
  cases hd : allD xs with
  | none => simp [hd] at eq
  | some ds =>
    rw [hd] at eq
    by_cases hl : ds.length ≤ 1000
    · simp [hl] at eq
      subst eq
      exact ⟨ds, rfl, hl, k⟩
    · simp [hl] at eq
theorem je_tup {j : Nat} (ha : JA G X ms es) : JE G X (eTup ms) (.Tuple es j pos) := fun U t => (pe_tup (ha U t)).imp fun σ H Q h => by
  refine rdA_bind h fun ι1 xs h1 vs H1 r1 v1 m1 => ?_
  obtain ⟨ds, hd, hl, k⟩ := display_D m1
  have rd := allD_rep hd v1
  refine ⟨line1000 (by rw [rd.length]; exact hl), fun p np => k ι1 _ _ (Ext.fresh np) (r1.fresh np) ?_⟩
  exact .tup (.inl (.inl upd_same)) (RepDs.mono (Stb.fresh np) _ _ rd)
theorem je_lstD (ha : JA G X ms es) : JE G X (eLstD ms) (.List es pos) := fun U t => (pe_frz (pe_lst (ha U t))).imp fun σ H Q h => by
  refine rdA_bind h fun ι1 xs h1 vs H1 r1 v1 m1 => ?_
  obtain ⟨ds, hd, hl, k⟩ := display_D m1
  have rd := allD_rep hd v1
  refine ⟨line1000 (by rw [rd.length]; exact hl), fun p np => .inr ⟨p, vs, rfl, upd_same, fun o => ?_⟩⟩
  rw [upd2]
  exact k ι1 _ _ (Ext.fresh np) (r1.fresh np) (.lst upd_same (RepDs.mono (Stb.fresh np) _ _ rd))
theorem je_lstH (ha : JA G X ms es) : JE G X (eLstH ms) (.List es pos) := fun U t => (pe_lst (ha U t)).imp fun σ H Q h => by
  refine rdA_bind h fun ι1 xs h1 vs H1 r1 v1 m1 => ?_
  split at m1
  · rename_i hx
    refine ⟨line1000 (by rw [← v1.length]; exact hx.2), fun p np => m1 _ _ _ (r1.newExt np) (r1.new np ⟨vs, upd_same, (v1.down hx.1).mono (r1.newExt np)⟩) ⟨p, Io.new_same, rfl⟩⟩
  · exact m1.elim
/-- freeze what came, a list of data -/
def AH.del (h : AH) (i : Nat) : AH := ⟨h.n, fun j => if j = i then none else h.f j⟩
def eFrz (m : SemE) : SemE := fun ρ h => (m ρ h).bind fun x h1 => match x with
  | .ref i => match h1.f i with
    | some (.lst ws) => match allD ws with
      | some ds => .ok (.d (.list ds)) (h1.del i)
      | none => .bad
    | _ => .bad
  | x => .ok x h1
theorem RlH.frz {ι : Io} {h : AH} {H : Hp} {i : Nat} {a : Addr} {xs : List V} {o : Obj} (r : RlH G ι h H) (hi : ι i = some a) (ha : H a = some (.lst xs)) : Ext ι H ι (upd H a (frzO xs o)) ∧ RlH G ι (h.del i) (upd H a (frzO xs o)) := by
  have l : Loose H a := loose_lst ha
  have no : ∀ ps, frzO xs o ≠ .tbl ps := fun ps z => by unfold frzO at z; cases z
  refine ⟨Ext.write hi l no, ⟨fun j o' hj => ?_, r.lt, r.inj, fun j b hj => ?_, Tabs.write r.tab l⟩⟩
  · by_cases e : j = i
    · simp [AH.del, e] at hj
    · simp only [AH.del, if_neg e] at hj
      obtain ⟨b, h1, h2⟩ := r.ob j o' hj
      exact ⟨b, h1, h2.mono (Ext.write hi l no) (upd_ne fun z => e (r.inj j i a (z ▸ h1) hi))⟩
  · exact (r.trk j b hj).upd no
theorem je_frz (ha : JE G X m e) : JE G X (eFrz m) e := fun U t => (pe_frz (ha U t)).imp fun σ H Q h => by
  refine rd_bind h fun ι ι1 ρ x h1 v H1 e1 r1 re1 v1 m1 => ?_
  split at m1
  · split at m1
    · rename_i i _ ws hi
      split at m1
      · rename_i ds hd
        obtain ⟨a, e2, ev⟩ := v1
        obtain ⟨b, e3, vs, e4, rw4⟩ := r1.ob i _ hi
        rw [e2] at e3
        cases e3
        have rd := allD_rep hd rw4
        refine .inr ⟨a, vs, ev, e4, fun o => ?_⟩
        obtain ⟨x1, x2⟩ := r1.frz (o := o) e2 e4
        rw [ev]
        exact m1 ι1 _ _ x1 x2 (.lst upd_same (RepDs.mono x1.st _ _ rd))
      · exact m1.elim
    · exact m1.elim
  · exact .inl (okP.here m1 r1 v1)
end
end Q

set_option Elab.async false
set_option maxRecDepth 100000
set_option linter.all false
set_option autoImplicit false
namespace Q
open PySem PySem.Spec PyProof.Rows L2 LamX

def Out.st {α : Type} (o : Out α) (k : α → AH → OutS) : OutS := match o with
  | .ok a h => k a h
  | .err c fs h => .err c fs h
  | .bad => .bad
section
variable {G : Gd} {X : Cx} {pos : Pos} {e : Expr} {sts rest : List Stmt} {s1 : Stmt} {m : SemE} {mt : SemT} {ma mb : SemS}
theorem st_to {U : WX} {D : Ends} {σ : L2.St} {ι : Io} {H : Hp} {α : Type} {o : Out α} {k : α → AH → OutS} (h : stP G ι H U D (o.st k)) : o.to (fun a h1 => stP G ι H U D (k a h1)) (erP G ι H (xk U σ)) := by
  cases o with
  | ok a h1 => exact h
  | err c fs h1 => exact fun ι' H' C d e1 r1 g1 x1 => h ι' σ H' C d e1 r1 g1 x1
  | bad => exact h
/-- one value, then the rest of a statement -/
theorem rdS_bind {U : WX} {D : Ends} {σ : L2.St} {H : Hp} {k : W → Env' → AH → OutS} {R : VK} (h : rdS G U (fun ρ h => (m ρ h).st fun x h1 => k x ρ h1) D σ H)
    (hk : ∀ (ι1 : Io) (ρ : Env') (x : W) (h1 : AH) (v : V) (H1 : Hp), RlH G ι1 h1 H1 → RlE G ι1 ρ σ H1 → RepW G ι1 H1 x v → stP G ι1 H1 U D (k x ρ h1) → R v H1) : rdE G U m σ H R := by
  obtain ⟨ι, ρ, h0, rh, re, q⟩ := h
  have q := st_to (σ := σ) q
  exact ⟨ι, ρ, h0, rh, re, Out.to_mono q (fun x h1 z ι1 v H1 e1 r1 v1 => hk ι1 ρ x h1 v H1 r1 (re.mono e1) v1 (z.up e1)) fun _ _ _ z => z⟩
theorem rdSt_bind {U : WX} {D : Ends} {σ : L2.St} {H : Hp} {k : Bool → Env' → AH → OutS} {R : Bool → Hp → Prop} (h : rdS G U (fun ρ h => (mt ρ h).st fun x h1 => k x ρ h1) D σ H)
    (hk : ∀ (ι1 : Io) (ρ : Env') (x : Bool) (h1 : AH) (H1 : Hp), RlH G ι1 h1 H1 → RlE G ι1 ρ σ H1 → stP G ι1 H1 U D (k x ρ h1) → R x H1) : rdT G U mt σ H R := by
  obtain ⟨ι, ρ, h0, rh, re, q⟩ := h
  have q := st_to (σ := σ) q
  exact ⟨ι, ρ, h0, rh, re, Out.to_mono q (fun x h1 z ι1 H1 e1 r1 => hk ι1 ρ x h1 H1 r1 (re.mono e1) (z.up e1)) fun _ _ _ z => z⟩
def sNil : SemS := fun ρ h => .nx ρ h
def sSeq (a b : SemS) : SemS := fun ρ h => match a ρ h with
  | .nx ρ' h' => b ρ' h'
  | o => o
def sExpr (m : SemE) : SemS := fun ρ h => (m ρ h).st fun _ h1 => .nx ρ h1
def sRet (m : SemE) : SemS := fun ρ h => (m ρ h).st fun x h1 => .rt x h1
def sRetN : SemS := fun _ h => .rt (.d .none) h
def sIf (t : SemT) (a b : SemS) : SemS := fun ρ h => (t ρ h).st fun c h1 => if c = true then a ρ h1 else b ρ h1
def sSet (i : Nat) (m : SemE) : SemS := fun ρ h => (m ρ h).st fun x h1 => .nx (ρ.set i (some x)) h1
def sBreak : SemS := fun ρ h => .bk ρ h
def sCont : SemS := fun ρ h => .ct ρ h
def sRaise (c : String) : SemS := fun _ h => .err c [] h
theorem jss_nil : JSs G X sNil [] := fun U _ => pss_nil.imp fun D σ H ⟨ι, ρ, h0, rh, re, q⟩ => q ι σ H .refl rh re
theorem jss_cons (ha : JS G X ma s1) (hb : JSs G X mb rest) : JSs G X (sSeq ma mb) (s1 :: rest) := fun U t => (pss_cons (ha U t) (hb U t)).imp fun D σ H ⟨ι, ρ, h0, rh, re, q⟩ => by
  refine ⟨ι, ρ, h0, rh, re, ?_⟩
  unfold sSeq at q
  cases e : ma ρ h0 with
  | nx ρ' h' =>
    rw [e] at q
    exact fun ι' σ' H' e1 r1 re1 => ⟨ι', ρ', h', r1, re1, q.up e1⟩
  | rt x h => rw [e] at q; exact q
  | bk ρ h => rw [e] at q; exact q
  | ct ρ h => rw [e] at q; exact q
  | err c fs h => rw [e] at q; exact q
  | bad => rw [e] at q; exact q
theorem jss_one (ha : JS G X ma s1) : JSs G X ma [s1] := fun U t => pss_one (ha U t)
theorem js_expr (ha : JE G X m e) (hs : swapsWith e none pos.line X.env = pure false := by rfl) : JS G X (sExpr m) (.Expr e pos) := fun U t => (ps_expr (ha U t) hs).imp fun D σ H h =>
  rdS_bind h fun ι1 ρ x h1 v H1 r1 re1 v1 q => q ι1 σ H1 .refl r1 re1
theorem js_ret (ha : JE G X m e) : JS G X (sRet m) (.Return (some e) pos) := fun U t => (ps_ret (ha U t)).imp fun D σ H h =>
  rdS_bind h fun ι1 ρ x h1 v H1 r1 re1 v1 q => q ι1 v H1 .refl r1 v1
theorem js_retN : JS G X sRetN (.Return none pos) := fun U t => ps_retN.imp fun D σ H ⟨ι, ρ, h0, rh, re, q⟩ => q ι .non H .refl rh .non
theorem js_if {c : Expr} {a b : List Stmt} (hc : JT G X mt c) (ha : JSs G X ma a) (hb : JSs G X mb b) : JS G X (sIf mt ma mb) (.If c a b pos) := fun U t => (ps_if (hc U t) (ha U t) (hb U t)).imp fun D σ H h =>
  rdSt_bind h fun ι1 ρ x h1 H1 r1 re1 q => by
    cases x with
    | true => exact ⟨ι1, ρ, h1, r1, re1, q⟩
    | false => exact ⟨ι1, ρ, h1, r1, re1, q⟩
theorem js_set {i : Nat} {x : Str} {pos' : Pos} (hN : X.N.Nodup) (hi : X.N[i]? = some x) (hx : Loc X.env.scope x) (ha : JE G X m e) (hs : swapsWith e (some (.Name x pos')) pos.line X.env = pure false := by rfl) (hf : X.fn x = true ∨ X.env.scope.names.lookup x = some .local := by first | exact .inl rfl | exact .inr rfl) :
    JS G X (sSet i m) (.Assign [.Name x pos'] e pos) := fun U t => (ps_set hN hi hx (ha U t) hs hf).imp fun D σ H h =>
  rdS_bind h fun ι1 ρ x h1 v H1 r1 re1 v1 q => q ι1 _ H1 .refl r1 (re1.set v1)
theorem js_break : JS G X sBreak (.Break pos) := fun U _ => ps_break.imp fun D σ H ⟨ι, ρ, h0, rh, re, q⟩ => q ι σ H .refl rh re
theorem js_cont : JS G X sCont (.Continue pos) := fun U _ => ps_continue.imp fun D σ H ⟨ι, ρ, h0, rh, re, q⟩ => q ι σ H .refl rh re
theorem js_pass : JS G X sNil (.Pass pos) := fun U _ => ps_pass.imp fun D σ H ⟨ι, ρ, h0, rh, re, q⟩ => q ι σ H .refl rh re
theorem js_doc {x : Str} {j : Nat} {pos' : Pos} : JS G X sNil (.Expr (.Constant (.str x) j pos) pos') := fun U _ => ps_doc.imp fun D σ H ⟨ι, ρ, h0, rh, re, q⟩ => q ι σ H .refl rh re
/-- raise X('..') -/
theorem js_raise {c : String} {msg : Str} {j : Nat} {C : Addr} {bmB : List Value} {B newId initId : String} {p p2 pos2 : Pos} (hc : X.calm = true) (F : ExcBaseFacts B newId initId bmB) (q : PySem.W.excIn X.K C bmB newId = true) (gC : X.mg (Str.ofString c) = some (.ref C)) (kC : PySem.W.keepIn X.K (.ref C) = true) (r : Raises X (.ref C)) (hg : Gl X (Str.ofString c)) (hG : G.mg = X.mg)
    (hd : (Str.ofString c == ("__debug__" : Str)) = false := by decide) (hs : starEach [.Constant (.str msg) j p2] X.env = (false, eval (.Constant (.str msg) j p2) X.env) :: starEach [] X.env := by rfl) : JS G X (sRaise c) (.Raise (some (.Call (.Name (Str.ofString c) p) [.Constant (.str msg) j p2] [] pos)) none pos2) := fun U t =>
  (ps_raise hc t (pmk_own F q gC kC r hg (hdb := hd))).imp fun D σ H ⟨ι, ρ, h0, rh, re, k⟩ => k ι σ H C none .refl rh (by rw [hG]; exact gC) ⟨rfl, rfl⟩

/-! ### while -/
def whN (t : SemT) (b : SemS) : Nat → Env' → AH → Option OutS
  | 0, _, _ => none
  | n + 1, ρ, h => match t ρ h with
    | .ok true h1 => match b ρ h1 with
      | .nx ρ' h' => whN t b n ρ' h'
      | .ct ρ' h' => whN t b n ρ' h'
      | .bk ρ' h' => some (.nx ρ' h')
      | .rt x h' => some (.rt x h')
      | .err c fs h' => some (.err c fs h')
      | .bad => some .bad
    | .ok false h1 => some (.nx ρ h1)
    | .err c fs h1 => some (.err c fs h1)
    | .bad => some .bad
theorem whN_succ (t : SemT) (b : SemS) : ∀ (n : Nat) (ρ : Env') (h : AH) (o : OutS), whN t b n ρ h = some o → whN t b (n + 1) ρ h = some o
  | 0, _, _, _, e => by cases e
  | n + 1, ρ, h, o, e => by
    unfold whN at e
    unfold whN
    cases et : t ρ h with
    | ok b0 h1 =>
      rw [et] at e
      cases b0 with
      | true =>
        dsimp only at e ⊢
        cases eb : b ρ h1 with
        | nx ρ' h' =>
          rw [eb] at e
          exact whN_succ t b n ρ' h' o e
        | ct ρ' h' =>
          rw [eb] at e
          exact whN_succ t b n ρ' h' o e
        | bk ρ' h' => rw [eb] at e; exact e
        | rt x h' => rw [eb] at e; exact e
        | err c fs h' => rw [eb] at e; exact e
        | bad => rw [eb] at e; exact e
      | false => exact e
    | err c fs h1 => rw [et] at e; exact e
    | bad => rw [et] at e; exact e
theorem whN_add {t : SemT} {b : SemS} {n : Nat} (k : Nat) {ρ : Env'} {h : AH} {o : OutS} (e : whN t b n ρ h = some o) : whN t b (n + k) ρ h = some o := by
  induction k with
  | zero => exact e
  | succ k ih => exact whN_succ t b _ ρ h o ih
theorem whN_det {t : SemT} {b : SemS} {n k : Nat} {ρ : Env'} {h : AH} {o o' : OutS} (e : whN t b n ρ h = some o) (e' : whN t b k ρ h = some o') : o = o' := by
  have h1 := whN_add k e
  have h2 := whN_add n e'
  rw [Nat.add_comm] at h2
  rw [h1] at h2
  exact Option.some.inj h2
open Classical in
noncomputable def sWhile (t : SemT) (b : SemS) : SemS := fun ρ h => if x : ∃ n o, whN t b n ρ h = some o then Classical.choose (Classical.choose_spec x) else .bad
theorem sWhile_of {t : SemT} {b : SemS} {n : Nat} {ρ : Env'} {h : AH} {o : OutS} (e : whN t b n ρ h = some o) : sWhile t b ρ h = o := by
  have x : ∃ n o, whN t b n ρ h = some o := ⟨n, o, e⟩
  unfold sWhile
  rw [dif_pos x]
  exact whN_det (Classical.choose_spec (Classical.choose_spec x)) e
theorem sWhile_ex {t : SemT} {b : SemS} {ρ : Env'} {h : AH} (d : sWhile t b ρ h ≠ .bad) : ∃ n, whN t b n ρ h = some (sWhile t b ρ h) := by
  by_cases x : ∃ n o, whN t b n ρ h = some o
  · obtain ⟨n, o, e⟩ := x
    exact ⟨n, by rw [sWhile_of e]; exact e⟩
  · exact absurd (by unfold sWhile; rw [dif_neg x]) d
theorem js_while {c : Expr} {body : List Stmt} (cg : PassesOwn (model X.prog X.w) X.A X.env X.xe) (hc : JT G X mt c) (hb : JSs G X ma body) : JS G X (sWhile mt ma) (.While c body [] pos) := fun U t => (ps_while cg (hc U t) (hb U t)).imp fun D σ H ⟨ι, ρ, h0, rh, re, q⟩ => by
  have nb : sWhile mt ma ρ h0 ≠ .bad := fun z => by rw [z] at q; exact q
  obtain ⟨n, en⟩ := sWhile_ex nb
  refine ⟨fun m σ H => ∃ (ι : Io) (ρ : Env') (h : AH) (o : OutS), RlH G ι h H ∧ RlE G ι ρ σ H ∧ whN mt ma m ρ h = some o ∧ stP G ι H U D o, ⟨n, ι, ρ, h0, _, rh, re, en, q⟩, ?_⟩
  rintro m σ1 H1 ⟨ι1, ρ1, h1, o, r1, re1, e1, q1⟩
  cases m with
  | zero => cases e1
  | succ m =>
    unfold whN at e1
    refine ⟨ι1, ρ1, h1, r1, re1, ?_⟩
    cases et : mt ρ1 h1 with
    | ok b h2 =>
      rw [et] at e1
      intro ι2 H2 x2 r2
      have re2 := re1.mono x2
      cases b with
      | true =>
        rw [if_pos rfl]
        dsimp only at e1
        refine ⟨fun σ H => ∃ (ι : Io) (ρ : Env') (h : AH) (o : OutS), RlH G ι h H ∧ RlE G ι ρ σ H ∧ whN mt ma m ρ h = some o ∧ stP G ι H U D o, fun σ' H' z => ⟨m, Nat.lt_succ_self m, z⟩, ι2, ρ1, h2, r2, re2, ?_⟩
        cases eb : ma ρ1 h2 with
        | nx ρ' h' =>
          rw [eb] at e1
          exact fun ι' σ' H' x3 r3 re3 => ⟨ι', ρ', h', o, r3, re3, e1, q1.up (x2.trans x3)⟩
        | ct ρ' h' =>
          rw [eb] at e1
          exact fun ι' σ' H' x3 r3 re3 => ⟨ι', ρ', h', o, r3, re3, e1, q1.up (x2.trans x3)⟩
        | bk ρ' h' =>
          rw [eb] at e1
          cases e1
          exact q1.up x2
        | rt x h' =>
          rw [eb] at e1
          cases e1
          exact q1.up x2
        | err c fs h' =>
          rw [eb] at e1
          cases e1
          exact q1.up x2
        | bad =>
          rw [eb] at e1
          cases e1
          exact q1
      | false =>
        cases e1
        rw [if_neg Bool.false_ne_true]
        exact q1 ι2 σ1 H2 x2 r2 re2
    | err c fs h2 =>
      rw [et] at e1
      cases e1
      exact fun ι' H' C d x2 r2 g2 d2 => q1 ι' σ1 H' C d x2 r2 g2 d2
    | bad =>
      rw [et] at e1
      cases e1
      exact q1
end
end Q

set_option Elab.async false
set_option maxRecDepth 100000
set_option linter.all false
set_option autoImplicit false
namespace Q
open PySem PySem.Spec PyProof.Rows L2 LamX

/-! ### targets -/
abbrev SemG := W → Env' → Option Env'
abbrev SemGs := List W → Env' → Option Env'
def gN (i : Nat) : SemG := fun x ρ => some (ρ.set i (some x))
def gsNil : SemGs := fun xs ρ => match xs with
  | [] => some ρ
  | _ => none
def gsCons (g : SemG) (gs : SemGs) : SemGs := fun xs ρ => match xs with
  | x :: r => (g x ρ).bind (gs r)
  | [] => none
def gT (n : Nat) (gs : SemGs) : SemG := fun x ρ => match x with
  | .d (.tuple ds) => if ds.length = n then gs (ds.map .d) ρ else none
  | _ => none
/-- only the slots sl were set -/
def Sets (sl : List Nat) (σ σ' : L2.St) : Prop := ∀ vs : List Nat, (∀ i ∈ sl, i ∈ vs) → wipe σ' vs = wipe σ vs
theorem wipe_set (σ : L2.St) (i : Nat) (x : Option V) : ∀ vs : List Nat, wipe (σ.set i x) vs = if i ∈ vs then wipe σ vs else (wipe σ vs).set i x
  | [] => by simp [wipe]
  | v :: vs => by
    have ih := wipe_set σ i x vs
    show (wipe (σ.set i x) vs).set v none = _
    rw [ih]
    by_cases h : i ∈ vs
    · rw [if_pos h, if_pos (List.mem_cons_of_mem _ h)]
      rfl
    · rw [if_neg h]
      by_cases e : i = v
      · subst e
        rw [if_pos List.mem_cons_self, List.set_set]
        rfl
      · rw [if_neg (by simp [h, e])]
        show ((wipe σ vs).set i x).set v none = ((wipe σ vs).set v none).set i x
        exact List.set_comm _ _ e
theorem Sets.one (σ : L2.St) (i : Nat) (x : Option V) : Sets [i] σ (σ.set i x) := fun vs h => by
  rw [wipe_set, if_pos (h i List.mem_cons_self)]
theorem Sets.app {s1 s2 : List Nat} {σ σ1 σ2 : L2.St} (a : Sets s1 σ σ1) (b : Sets s2 σ1 σ2) : Sets (s1 ++ s2) σ σ2 := fun vs h => by
  rw [b vs fun i hi => h i (List.mem_append_right _ hi), a vs fun i hi => h i (List.mem_append_left _ hi)]
theorem wipe_idem (σ : L2.St) (vs : List Nat) : wipe (wipe σ vs) vs = wipe σ vs := by
  have key : ∀ (us : List Nat) (τ : L2.St), (∀ i ∈ us, i ∈ vs) → wipe (wipe τ us) vs = wipe τ vs := by
    intro us
    induction us with
    | nil => intro τ _; rfl
    | cons u us ih =>
      intro τ h
      show wipe ((wipe τ us).set u none) vs = _
      rw [wipe_set, if_pos (h u List.mem_cons_self)]
      exact ih τ fun i hi => h i (List.mem_cons_of_mem _ hi)
  exact key vs σ fun _ h => h
def JG (G : Gd) (X : Cx) (g : SemG) (sl : List Nat) (tg : Expr) : Prop := ∃ r : TG, PG X tg r ∧ ∀ (ι : Io) (H : Hp) (x : W) (v : V) (ρ ρ' : Env') (σ : L2.St) (Q : L2.St → Hp → Prop), RlE G ι ρ σ H → RepW G ι H x v → g x ρ = some ρ' → (∀ σ', RlE G ι ρ' σ' H → Sets sl σ σ' → Q σ' H) → r v σ H Q
def JGs (G : Gd) (X : Cx) (gs : SemGs) (sl : List Nat) (ts : List Expr) : Prop := ∃ r : TGs, PGs X ts r ∧ ∀ (ι : Io) (H : Hp) (xs : List W) (vs : List V) (ρ ρ' : Env') (σ : L2.St) (Q : L2.St → Hp → Prop), RlE G ι ρ σ H → RepWs G ι H xs vs → gs xs ρ = some ρ' → (∀ σ', RlE G ι ρ' σ' H → Sets sl σ σ' → Q σ' H) → r vs σ H Q
section
variable {G : Gd} {X : Cx} {pos : Pos}
theorem jg_name {i : Nat} {x : Str} (hN : X.N.Nodup) (hi : X.N[i]? = some x) (hx : Loc X.env.scope x) (hf : X.fn x = true ∨ X.env.scope.names.lookup x = some .local := by first | exact .inl rfl | exact .inr rfl) : JG G X (gN i) [i] (.Name x pos) :=
  ⟨_, pg_name hN hi hx hf, fun ι H x v ρ ρ' σ Q re rv e k => by
    cases e
    exact k _ (re.set rv) (Sets.one σ i _)⟩
theorem jgs_nil : JGs G X gsNil [] [] := ⟨_, pgs_nil, fun ι H xs vs ρ ρ' σ Q re rv e k => by
  cases rv with
  | nil =>
    cases e
    exact ⟨rfl, k σ re fun _ _ => rfl⟩
  | cons _ _ => cases e⟩
theorem jgs_cons {g : SemG} {gs : SemGs} {s1 s2 : List Nat} {e : Expr} {es : List Expr} (h1 : JG G X g s1 e) (h2 : JGs G X gs s2 es) (hs : (assignEach (e :: es) X.env).map (·.2) = assign e X.env :: (assignEach es X.env).map (·.2) := by rfl) : JGs G X (gsCons g gs) (s1 ++ s2) (e :: es) := by
  obtain ⟨r1, p1, k1⟩ := h1
  obtain ⟨r2, p2, k2⟩ := h2
  refine ⟨_, pgs_cons p1 p2 hs, fun ι H xs vs ρ ρ' σ Q re rv e k => ?_⟩
  cases rv with
  | nil => cases e
  | cons rx rr =>
    rename_i x v xs vs
    have e' : (g x ρ).bind (gs xs) = some ρ' := e
    cases eg : g x ρ with
    | none => rw [eg] at e'; cases e'
    | some ρ1 =>
      rw [eg] at e'
      exact ⟨v, vs, rfl, k1 ι H x v ρ ρ1 σ _ re rx eg fun σ1 re1 se1 => k2 ι H xs vs ρ1 ρ' σ1 Q re1 rr e' fun σ2 re2 se2 => k σ2 re2 (se1.app se2)⟩
theorem jg_tup {gs : SemGs} {sl : List Nat} {es : List Expr} {j n : Nat} (hc : X.calm = true) (hK : X.K = G.K) (h : JGs G X gs sl es) (hn : (assignEach es X.env).length = n := by rfl) (hst : (assignEach es X.env).findIdx? (·.1) = none := by rfl) : JG G X (gT n gs) sl (.Tuple es j pos) := by
  obtain ⟨r, p, k0⟩ := h
  refine ⟨_, pg_tup hc p hn hst, fun ι H x v ρ ρ' σ Q re rv e k => ?_⟩
  cases x with
  | d y =>
    cases y with
    | tuple ds =>
      cases rv with
      | @tup a xs _ h1 h2 =>
        have e' : (if ds.length = n then gs (ds.map .d) ρ else none) = some ρ' := e
        by_cases hl : ds.length = n
        · rw [if_pos hl] at e'
          exact ⟨a, xs, rfl, by rw [hK]; exact h1, by rw [h2.length]; exact hl, k0 ι H _ xs ρ ρ' σ Q re (rep_map h2) e' k⟩
        · rw [if_neg hl] at e'
          cases e'
    | _ => cases e
  | _ => cases e
end

/-! ### what is walked -/
abbrev SemI := Env' → AH → Out (List W × (AH → Prop))
structure ItOk (G : Gd) (J : It) (ι0 : Io) (H0 : Hp) (ws : List W) (chk : AH → Prop) : Prop where
  go : ∀ (ι : Io) (h : AH) (H : Hp) (i : Nat), Ex0 ι0 H0 ι H → RlH G ι h H → chk h → i < ws.length → J.go i H
  yld : ∀ (ι : Io) (h : AH) (H : Hp) (i : Nat) (x : V) (H' : Hp), Ex0 ι0 H0 ι H → RlH G ι h H → chk h → i < ws.length → J.yld i H x H' → Ext ι H ι H' ∧ RlH G ι h H' ∧ ∃ y, ws[i]? = some y ∧ RepW G ι H' y x
  stop : ∀ (ι : Io) (h : AH) (H : Hp), Ex0 ι0 H0 ι H → RlH G ι h H → chk h → J.stop ws.length H
def rdI (G : Gd) (U : WX) (mi : SemI) : TI := fun σ H R => ∃ (ι : Io) (ρ : Env') (h : AH), RlH G ι h H ∧ RlE G ι ρ σ H ∧ (mi ρ h).to (fun p h' => ∀ (ι' : Io) (H' : Hp) (J : It), Ext ι H ι' H' → RlH G ι' h' H' → ItOk G J ι' H' p.1 p.2 → p.1.length ≤ sizeLine → R J H') (erP G ι H (xk U σ))
def JI (G : Gd) (X : Cx) (mi : SemI) (tg it : Expr) : Prop := ∀ U : WX, Takes X U → PI X tg it (rdI G U mi)
theorem _root_.L2.PI.imp {X : Cx} {tg it : Expr} {t t' : TI} (p : PI X tg it t) (h : ∀ σ H R, t' σ H R → t σ H R) : PI X tg it t' := ⟨fun pins s σ H R I q => p.run pins s σ H R I (h σ H R q)⟩
def iSeq (m : SemE) : SemI := fun ρ h => (m ρ h).bind fun x h1 => match x with
  | .d (.list ds) => .ok (ds.map .d, fun _ => True) h1
  | .d (.tuple ds) => .ok (ds.map .d, fun _ => True) h1
  | .ref i => match h1.f i with
    | some (.lst ws) => .ok (ws, fun h => h.f i = some (.lst ws)) h1
    | _ => .bad
  | .clos ks => .ok (ks.map .clo, fun _ => True) h1
  | _ => .bad
theorem Paired.get' {α β : Type} {F : α → β → Prop} : ∀ {l : List α} {m : List β} {i : Nat} {b : β}, Paired F l m → m[i]? = some b → ∃ a, l[i]? = some a ∧ F a b
  | _, _, _, _, .nil, e => by simp at e
  | _, _, 0, _, .cons r _, e => by simp at e; subst e; exact ⟨_, rfl, r⟩
  | _, _, i + 1, b, .cons _ t, e => by
    obtain ⟨a, h1, h2⟩ := Paired.get' (i := i) t (by simpa using e)
    exact ⟨a, by simpa using h1, h2⟩
theorem Paired.get1 {α β : Type} {F : α → β → Prop} : ∀ {l : List α} {m : List β} {i : Nat} {a : α}, Paired F l m → l[i]? = some a → ∃ b, m[i]? = some b ∧ F a b
  | _, _, _, _, .nil, e => by simp at e
  | _, _, 0, _, .cons r _, e => by simp at e; subst e; exact ⟨_, rfl, r⟩
  | _, _, i + 1, b, .cons _ t, e => by
    obtain ⟨a, h1, h2⟩ := Paired.get1 (i := i) t (by simpa using e)
    exact ⟨a, by simpa using h1, h2⟩
/-- a list that stays, told by the heap at each turn -/
theorem itl_ok {G : Gd} {K : PySem.W.Frag} {ι0 : Io} {H0 : Hp} {a : Addr} {ws : List W} {chk : AH → Prop} (h : ∀ (ι : Io) (h : AH) (H : Hp), Ex0 ι0 H0 ι H → RlH G ι h H → chk h → ∃ vs, SqL K H a vs ∧ RepWs G ι H ws vs) : ItOk G (Itl K a) ι0 H0 ws chk where
  go := fun ι h1 H i e r c hi => by
    obtain ⟨vs, q, rw⟩ := h ι h1 H e r c
    have hi' : i < vs.length := by rw [← rw.length]; exact hi
    exact ⟨vs, vs[i], q, by simp [hi']⟩
  yld := fun ι h1 H i x H' e r c hi y => by
    obtain ⟨rfl, y⟩ := y
    obtain ⟨vs, q, rw⟩ := h ι h1 H' e r c
    exact ⟨.refl, r, Paired.get' rw (y vs q)⟩
  stop := fun ι h1 H e r c => by
    obtain ⟨vs, q, rw⟩ := h ι h1 H e r c
    exact ⟨vs, q, Nat.le_of_eq rw.length.symm⟩
theorem itt_ok {G : Gd} {K : PySem.W.Frag} {ι0 : Io} {H0 : Hp} {a : Addr} {ws : List W} {chk : AH → Prop} (h : ∀ (ι : Io) (h : AH) (H : Hp), Ex0 ι0 H0 ι H → RlH G ι h H → chk h → ∃ vs, SqT K H a vs ∧ RepWs G ι H ws vs) : ItOk G (Itt K a) ι0 H0 ws chk where
  go := fun ι h1 H i e r c hi => by
    obtain ⟨vs, q, rw⟩ := h ι h1 H e r c
    have hi' : i < vs.length := by rw [← rw.length]; exact hi
    exact ⟨vs, vs[i], q, by simp [hi']⟩
  yld := fun ι h1 H i x H' e r c hi y => by
    obtain ⟨rfl, y⟩ := y
    obtain ⟨vs, q, rw⟩ := h ι h1 H' e r c
    exact ⟨.refl, r, Paired.get' rw (y vs q)⟩
  stop := fun ι h1 H e r c => by
    obtain ⟨vs, q, rw⟩ := h ι h1 H e r c
    exact ⟨vs, q, Nat.le_of_eq rw.length.symm⟩
section
variable {G : Gd} {X : Cx} {pos : Pos} {tg e : Expr} {m : SemE}
/-- a list or a tuple, walked -/
def iEither (K : PySem.W.Frag) (tl : TE) : TI := fun σ H R => tl σ H fun x H1 => ∃ a, x = .ref a ∧ ((∃ xs, SqL K H1 a xs ∧ (xs.length ≤ sizeLine → R (Itl K a) H1)) ∨ (∃ xs, SqT K H1 a xs ∧ (xs.length ≤ sizeLine → R (Itt K a) H1)))
theorem pi_either {tl : TE} (hl : PE X e tl) : PI X tg e (iEither X.K tl) := by
  constructor
  intro pins s σ H R I h
  refine thn (hl.run pins s σ H _ I h) fun v s1 hv => ?_
  obtain ⟨x, H1, I1, r1, a, e, q1⟩ := hv
  subst e
  cases r1
  have fpk : ∀ b ∈ [s1.heap.objs.size], FpOk X pins H1 b := fun b hb => by
    have e : b = s1.heap.objs.size := by simpa using hb
    rw [e]
    exact I1.fpOk (Nat.le_refl _) (I1.hok.fresh (Nat.le_refl _))
  rcases q1 with ⟨xs, hq, q⟩ | ⟨xs, hq, q⟩
  · obtain ⟨its, rv, p, hz⟩ := I1.list hq
    refine wpAny_pyIter_list p.isList ?_
    exact ⟨s1.heap.objs.size, [s1.heap.objs.size], _, _, H1, rfl, I1.kept (t' := s1.toks) fun b o e => Heap.get?_push_of_some _ e, turn_list a _, ⟨_, Heap.get?_push_size _ rfl, rfl, rfl⟩, fpk, q hz⟩
  · obtain ⟨its, rv, p, hz⟩ := I1.tuple hq
    refine wpAny_pyIter_tuple (show s1.heap.IsTuple a its.toArray from p) ?_
    exact ⟨s1.heap.objs.size, [s1.heap.objs.size], _, _, H1, rfl, I1.kept (t' := s1.toks) fun b o e => Heap.get?_push_of_some _ e, turn_tuple a _, ⟨_, Heap.get?_push_size _ rfl, rfl, rfl⟩, fpk, q hz⟩
theorem ji_seq (hK : X.K = G.K) (ha : JE G X m e) : JI G X (iSeq m) tg e := fun U t => (pi_either (ha U t)).imp fun σ H R h => by
  obtain ⟨ι, ρ, h0, rh, re, q⟩ := h
  unfold iSeq at q
  rw [to_bind] at q
  refine ⟨ι, ρ, h0, rh, re, Out.to_mono q (fun x h1 z ι1 v H1 e1 r1 v1 => ?_) fun _ _ _ z => z⟩
  rw [hK]
  split at z
  · rename_i ds
    cases v1 with
    | @lst a o xs _ h1 h2 =>
      exact ⟨a, rfl, .inl ⟨xs, .inl (.inr ⟨o, h1⟩), fun hl => z ι1 H1 _ e1 r1 (itl_ok fun ι h H x r _ => ⟨xs, .inl (.inr ⟨o, x.st.2 _ _ _ h1⟩), rep_map (RepDs.mono x.st _ _ h2)⟩) (by rw [List.length_map, ← h2.length]; exact hl)⟩⟩
  · rename_i ds
    cases v1 with
    | @tup a xs _ h1 h2 =>
      exact ⟨a, rfl, .inr ⟨xs, h1, fun hl => z ι1 H1 _ e1 r1 (itt_ok fun ι h H x r _ => ⟨xs, sqT_mono x.st h1, rep_map (RepDs.mono x.st _ _ h2)⟩) (by rw [List.length_map, ← h2.length]; exact hl)⟩⟩
  · rename_i i
    split at z
    · rename_i ws hi
      obtain ⟨a, hia, ev⟩ := v1
      obtain ⟨b, hib, vs, hb, rw⟩ := r1.ob i _ hi
      rw [hia] at hib
      cases hib
      refine ⟨a, ev, .inl ⟨vs, .inl (.inl hb), fun hl => z ι1 H1 _ e1 r1 (itl_ok fun ι h H x r c => ?_) (by rw [rw.length]; exact hl)⟩⟩
      obtain ⟨b, hib, us, hb, rw'⟩ := r.ob i _ c
      rw [x.up i a hia] at hib
      cases hib
      exact ⟨us, .inl (.inl hb), rw'.up⟩
    · exact z.elim
  · rename_i ks
    obtain ⟨a, o, vs, ev, hb, p⟩ := v1
    refine ⟨a, ev, .inl ⟨vs, .inl (.inr ⟨o, hb⟩), fun hl => z ι1 H1 _ e1 r1 (itl_ok fun ι h H x r _ => ⟨vs, .inl (.inr ⟨o, x.st.2 _ _ _ hb⟩), ?_⟩) (by rw [List.length_map, p.length]; exact hl)⟩⟩
    have go : ∀ (ks : List Nat) (vs : List V), Paired (fun k v => G.cl.p k ι1 H1 v) ks vs → RepWs G ι H (ks.map .clo) vs := by
      intro ks
      induction ks with
      | nil => intro vs p; cases p; exact .nil
      | cons k ks ih =>
        intro vs p
        cases p with
        | cons p1 p2 => exact .cons (G.cl.mono _ _ _ _ _ _ x p1) (ih _ p2)
    exact go ks vs p
  · exact z.elim
/-- range(a), range(a, b) -/
def rngW (lo : Int) (n : Nat) : List W := (List.range n).map fun (k : Nat) => W.d (.int (lo + (k : Int)))
def iRange1 (ma : SemE) : SemI := fun ρ h => (ma ρ h).bind fun x h1 => match x with
  | .d (.int j) => if -(2 ^ 62) ≤ j ∧ j ≤ 1000000 then .ok (rngW 0 j.toNat, fun _ => True) h1 else .bad
  | _ => .bad
theorem itr_ok {ι0 : Io} {H0 : Hp} {lo : Int} {n : Nat} {chk : AH → Prop} : ItOk G (Itr lo n) ι0 H0 (rngW lo n) chk where
  go := fun ι h1 H i e r c hi => by simpa [rngW, Itr] using hi
  yld := fun ι h1 H i x H' e r c hi y => by
    obtain ⟨rfl, rfl⟩ := y
    have hi' : i < n := by simpa [rngW] using hi
    exact ⟨.refl, r, .d (.int (lo + i)), by simp [rngW, List.getElem?_map, List.getElem?_range hi'], .int _⟩
  stop := fun ι h1 H e r c => by simp [rngW, Itr]
theorem ji_range1 {a : Expr} {ma : SemE} {p : Pos} (hg : Gl X "range") (hm : X.mg "range" = none) (ha : JE G X ma a) (hs : starEach [a] X.env = [(false, eval a X.env)] := by rfl) : JI G X (iRange1 ma) tg (.Call (.Name "range" p) [a] [] pos) := fun U t =>
  (pi_range1 hg hm (pa_cons (ha U t) pa_nil hs) hs).imp fun σ H R h => by
    obtain ⟨ι, ρ, h0, rh, re, q⟩ := h
    unfold iRange1 at q
    rw [to_bind] at q
    refine ⟨ι, ρ, h0, rh, re, Out.to_mono q (fun x h1 z ι1 v H1 e1 r1 v1 => ?_) fun _ _ _ z => z⟩
    split at z
    · rename_i j
      cases v1
      split at z
      · rename_i hj
        exact ⟨j, rfl, hj.1, by omega, z ι1 H1 _ e1 r1 itr_ok (by simp only [rngW, List.length_map, List.length_range]; rw [sizeLine_eq]; omega)⟩
      · exact z.elim
    · exact z.elim
def iRange2 (ma mb : SemE) : SemI := fun ρ h => (ma ρ h).bind fun x h1 => (mb ρ h1).bind fun y h2 => match x, y with
  | .d (.int i), .d (.int j) => if -(2 ^ 62) ≤ i ∧ i < 2 ^ 62 ∧ -(2 ^ 62) ≤ j ∧ j < 2 ^ 62 ∧ j - i ≤ 1000000 then .ok (rngW i (j - i).toNat, fun _ => True) h2 else .bad
  | _, _ => .bad
theorem ji_range2 {a b : Expr} {ma mb : SemE} {p : Pos} (hg : Gl X "range") (hm : X.mg "range" = none) (ha : JE G X ma a) (hb : JE G X mb b) (hs : starEach [a, b] X.env = [(false, eval a X.env), (false, eval b X.env)] := by rfl) (hs2 : starEach [b] X.env = [(false, eval b X.env)] := by rfl) :
    JI G X (iRange2 ma mb) tg (.Call (.Name "range" p) [a, b] [] pos) := fun U t =>
  (pi_range2 hg hm (pa_cons (ha U t) (pa_cons (hb U t) pa_nil hs2) (by rw [hs, hs2])) hs hs2).imp fun σ H R h => by
    obtain ⟨ι, ρ, h0, rh, re, q⟩ := h
    unfold iRange2 at q
    rw [to_bind] at q
    refine ⟨ι, ρ, h0, rh, re, Out.to_mono q (fun x h1 z ι1 v H1 e1 r1 v1 => ?_) fun _ _ _ z => z⟩
    rw [to_bind] at z
    refine ⟨ι1, ρ, h1, r1, re.mono e1, Out.to_mono z (fun y h2 z2 ι2 u H2 e2 r2 u2 => ?_) fun _ _ _ z2 => z2.up e1⟩
    split at z2
    · rename_i i j
      cases v1
      cases u2
      split at z2
      · rename_i hj
        exact ⟨i, j, rfl, ⟨hj.1, hj.2.1, hj.2.2.1, hj.2.2.2.1⟩, z2 ι2 H2 _ (e1.trans e2) r2 itr_ok (by simp only [rngW, List.length_map, List.length_range]; rw [sizeLine_eq]; omega)⟩
      · exact z2.elim
    · exact z2.elim
/-- enumerate(list) -/
def enW : Nat → List W → Option (List W)
  | _, [] => some []
  | n, .d x :: ws => (enW (n + 1) ws).map (.d (.tuple [.int (n : Int), x]) :: ·)
  | _, _ :: _ => none
theorem enW_get : ∀ {ws : List W} {n : Nat} {us : List W}, enW n ws = some us → us.length = ws.length ∧ ∀ (i : Nat) (y : W), us[i]? = some y → ∃ x, ws[i]? = some (W.d x) ∧ y = W.d (.tuple [.int ((n + i : Nat) : Int), x])
  | [], n, us, e => by cases e; exact ⟨rfl, fun i y q => by simp at q⟩
  | .d x :: ws, n, us, e => by
    cases q : enW (n + 1) ws with
    | none => simp [enW, q] at e
    | some vs =>
      simp [enW, q] at e
      subst e
      obtain ⟨h1, h2⟩ := enW_get q
      refine ⟨by simp [h1], fun i y hy => ?_⟩
      cases i with
      | zero =>
        simp at hy
        subst hy
        exact ⟨x, rfl, by simp⟩
      | succ i =>
        obtain ⟨z, e1, e2⟩ := h2 i y (by simpa using hy)
        exact ⟨z, by simpa using e1, by rw [e2]; simp; omega⟩
  | .ref _ :: _, _, _, e => by simp [enW] at e
  | .exc _ _ :: _, _, _, e => by simp [enW] at e
  | .clo _ :: _, _, _, e => by simp [enW] at e
  | .clos _ :: _, _, _, e => by simp [enW] at e
def iEnumL (m : SemE) : SemI := fun ρ h => (m ρ h).bind fun x h1 => match x with
  | .d (.list ds) => match enW 0 (ds.map .d) with
    | some us => if us.length ≤ 1000000 then .ok (us, fun _ => True) h1 else .bad
    | none => .bad
  | .ref i => match h1.f i with
    | some (.lst ws) => match enW 0 ws with
      | some us => if us.length ≤ 1000000 then .ok (us, fun h => h.f i = some (.lst ws)) h1 else .bad
      | none => .bad
    | _ => .bad
  | _ => .bad
theorem ite_ok {K : PySem.W.Frag} {ι0 : Io} {H0 : Hp} {a : Addr} {ws us : List W} {chk : AH → Prop} (eu : enW 0 ws = some us) (h : ∀ (ι : Io) (h : AH) (H : Hp), Ex0 ι0 H0 ι H → RlH G ι h H → chk h → ∃ vs, SqL K H a vs ∧ RepWs G ι H ws vs) : ItOk G (Ite K a) ι0 H0 us chk where
  go := fun ι h1 H i e r c hi => by
    obtain ⟨vs, q, rw⟩ := h ι h1 H e r c
    have hi' : i < vs.length := by
      rw [← rw.length, ← (enW_get eu).1]
      exact hi
    exact ⟨vs, vs[i], q, by simp [hi']⟩
  yld := fun ι h1 H i x H' e r c hi y => by
    obtain ⟨T, x', rfl, nT, rfl, y⟩ := y
    obtain ⟨vs, q, rw⟩ := h ι h1 H e r c
    obtain ⟨l1, l2⟩ := enW_get eu
    have hu : us[i]? = some us[i] := List.getElem?_eq_getElem hi
    obtain ⟨z, e1, e2⟩ := l2 i _ hu
    obtain ⟨v, f1, f2⟩ := Paired.get1 rw e1
    have f3 := y vs q
    rw [f1] at f3
    cases f3
    refine ⟨.fresh nT, r.fresh nT, us[i], hu, ?_⟩
    rw [e2]
    refine .tup (.inl (.inl upd_same)) (.cons ?_ (.cons (RepD.mono (Stb.fresh nT) _ _ f2) .nil))
    have : ((0 + i : Nat) : Int) = (i : Int) := by simp
    rw [this]
    exact .int _
  stop := fun ι h1 H e r c => by
    obtain ⟨vs, q, rw⟩ := h ι h1 H e r c
    exact ⟨vs, q, by rw [← rw.length, (enW_get eu).1]; exact Nat.le_refl _⟩
theorem ji_enumL {p tpos : Pos} {elts : List Expr} {j : Nat} (hK : X.K = G.K) (hg : Gl X "enumerate") (hm : X.mg "enumerate" = none) (ha : JE G X m e) (hs : starEach [e] X.env = [(false, eval e X.env)] := by rfl) : JI G X (iEnumL m) (.Tuple elts j tpos) (.Call (.Name "enumerate" p) [e] [] pos) := fun U t =>
  (pi_enum hg hm (pa_cons (ha U t) pa_nil hs) hs).imp fun σ H R h => by
    obtain ⟨ι, ρ, h0, rh, re, q⟩ := h
    unfold iEnumL at q
    rw [to_bind] at q
    refine ⟨ι, ρ, h0, rh, re, Out.to_mono q (fun x h1 z ι1 v H1 e1 r1 v1 => ?_) fun _ _ _ z => z⟩
    rw [hK]
    split at z
    · rename_i ds
      cases v1 with
      | @lst a o xs _ h1 h2 =>
        split at z
        · rename_i us eu
          split at z
          · rename_i hl
            exact ⟨a, xs, rfl, .inl (.inr ⟨o, h1⟩), z ι1 H1 _ e1 r1 (ite_ok eu fun ι h H x r _ => ⟨xs, .inl (.inr ⟨o, x.st.2 _ _ _ h1⟩), rep_map (RepDs.mono x.st _ _ h2)⟩) (by rw [sizeLine_eq]; show us.length ≤ _; omega)⟩
          · exact z.elim
        · exact z.elim
    · rename_i i
      split at z
      · rename_i ws hi
        split at z
        · rename_i us eu
          obtain ⟨a, hia, ev⟩ := v1
          obtain ⟨b, hib, vs, hb, rw⟩ := r1.ob i _ hi
          rw [hia] at hib
          cases hib
          split at z
          case isFalse => exact z.elim
          rename_i hl
          refine ⟨a, vs, by rw [ev], .inl (.inl hb), z ι1 H1 _ e1 r1 (ite_ok eu fun ι h H x r c => ?_) (by rw [sizeLine_eq]; show us.length ≤ _; omega)⟩
          obtain ⟨b, hib, us, hb, rw'⟩ := r.ob i _ c
          rw [x.up i a hia] at hib
          cases hib
          exact ⟨us, .inl (.inl hb), rw'.up⟩
        · exact z.elim
      · exact z.elim
    · exact z.elim
end
end Q

set_option Elab.async false
set_option maxRecDepth 100000
set_option linter.all false
set_option autoImplicit false
namespace Q
open PySem PySem.Spec PyProof.Rows L2 LamX

theorem ofString_inj {a b : String} (h : Str.ofString a = Str.ofString b) : a = b := by
  rw [Str.ofString_eq_toList, Str.ofString_eq_toList] at h
  have h1 : (a.toList.map Char.toNat) = (b.toList.map Char.toNat) := by
    injection h with h
    simpa using congrArg Array.toList h
  have inj : ∀ l m : List Char, l.map Char.toNat = m.map Char.toNat → l = m := by
    intro l
    induction l with
    | nil => intro m e; cases m with | nil => rfl | cons _ _ => simp at e
    | cons x l ih =>
      intro m e
      cases m with
      | nil => simp at e
      | cons y m =>
        simp only [List.map_cons, List.cons.injEq] at e
        have : x = y := Char.ext (UInt32.toNat_inj.mp e.1)
        rw [this, ih m e.2]
  have := inj _ _ h1
  exact String.ext_iff.mpr (by simpa using this)
theorem ofString_eq {a b : String} : (Str.ofString a = Str.ofString b) ↔ a = b := ⟨ofString_inj, fun h => by rw [h]⟩
theorem ofString_beq (a b : String) : (Str.ofString a == Str.ofString b) = (a == b) := by
  by_cases h : a = b
  · subst h
    simp
  · rw [beq_eq_false_iff_ne.mpr h, beq_eq_false_iff_ne.mpr fun z => h (ofString_inj z)]

/-! ### for -/
open Classical in
noncomputable def forL (chk : AH → Prop) (g : SemG) (b : SemS) : List W → Env' → AH → OutS
  | [], ρ, h => if chk h then .nx ρ h else .bad
  | x :: xs, ρ, h => if chk h then (match g x ρ with
    | some ρ1 => match b ρ1 h with
      | .nx ρ' h' => forL chk g b xs ρ' h'
      | .ct ρ' h' => forL chk g b xs ρ' h'
      | .bk ρ' h' => .nx ρ' h'
      | .rt y h' => .rt y h'
      | .err c fs h' => .err c fs h'
      | .bad => .bad
    | none => .bad) else .bad
noncomputable def sFor (mi : SemI) (g : SemG) (b : SemS) : SemS := fun ρ h => (mi ρ h).st fun p h1 => forL p.2 g b p.1 ρ h1
section
variable {G : Gd} {X : Cx} {pos : Pos}
theorem js_for {mi : SemI} {g : SemG} {sl : List Nat} {mb : SemS} {tg it : Expr} {body : List Stmt} (cg : PassesOwn (model X.prog X.w) X.A X.env X.xe) (hc : X.calm = true) (hi : JI G X mi tg it) (hg : JG G X g sl tg) (hb : JSs G X mb body) (hs : ∀ x, foldedSetIterable it X.env x = pure x := by intro _; rfl) :
    JS G X (sFor mi g mb) (.For tg it body [] pos) := fun U t => by
  obtain ⟨r, pg, kg⟩ := hg
  refine (ps_for cg hc (hi U t) pg (hb U t) hs).imp fun D σ H h => ?_
  obtain ⟨ι, ρ, h0, rh, re, q⟩ := h
  have q := st_to (σ := σ) q
  refine ⟨ι, ρ, h0, rh, re, Out.to_mono q (fun p h1 z ι1 H1 J e1 r1 ok _ => ?_) fun _ _ _ z => z⟩
  obtain ⟨ws, chk⟩ := p
  refine ⟨fun i m σ H => i ≤ ws.length ∧ m = ws.length - i ∧ ∃ (ι : Io) (ρ : Env') (h : AH), Ext ι1 H1 ι H ∧ RlH G ι h H ∧ RlE G ι ρ σ H ∧ stP G ι H U D (forL chk g mb (ws.drop i) ρ h), ⟨ws.length, Nat.zero_le _, rfl, ι1, ρ, h1, .refl, r1, re.mono e1, z.up e1⟩, ?_⟩
  rintro i m σ2 H2 ⟨hi, rfl, ι2, ρ2, h2, e2, r2, re2, q2⟩
  by_cases hlt : i < ws.length
  · rw [List.drop_eq_getElem_cons hlt] at q2
    unfold forL at q2
    split at q2
    · rename_i c2
      refine .inr ⟨ok.go ι2 h2 H2 i e2.lo r2 c2 hlt, fun σ H => i + 1 ≤ ws.length ∧ ∃ (ι : Io) (ρ : Env') (h : AH), Ext ι1 H1 ι H ∧ RlH G ι h H ∧ RlE G ι ρ σ H ∧ stP G ι H U D (forL chk g mb (ws.drop (i + 1)) ρ h), fun σ' H' z => ⟨ws.length - (i + 1), by omega, z.1, rfl, z.2⟩, fun x H' y => ?_⟩
      obtain ⟨x1, x2, w, x3, x4⟩ := ok.yld ι2 h2 H2 i x H' e2.lo r2 c2 hlt y
      rw [List.getElem?_eq_getElem hlt] at x3
      cases x3
      split at q2
      · rename_i ρ3 eg
        refine kg ι2 H' _ x ρ2 ρ3 σ2 _ (re2.mono x1) x4 eg fun σ3 re3 _ => ?_
        refine ⟨ι2, ρ3, h2, x2, re3, ?_⟩
        have q2 := q2.up x1
        cases eb : mb ρ3 h2 with
        | nx ρ' h' =>
          rw [eb] at q2
          exact fun ι' σ' H'' x5 r5 re5 => ⟨by omega, ι', ρ', h', (e2.trans x1).trans x5, r5, re5, q2.up x5⟩
        | ct ρ' h' =>
          rw [eb] at q2
          exact fun ι' σ' H'' x5 r5 re5 => ⟨by omega, ι', ρ', h', (e2.trans x1).trans x5, r5, re5, q2.up x5⟩
        | bk ρ' h' => rw [eb] at q2; exact q2
        | rt y h' => rw [eb] at q2; exact q2
        | err c fs h' => rw [eb] at q2; exact q2
        | bad => rw [eb] at q2; exact q2
      · exact q2.elim
    · exact q2.elim
  · have e : i = ws.length := by omega
    subst e
    rw [List.drop_length] at q2
    unfold forL at q2
    split at q2
    · rename_i c2
      exact .inl ⟨ok.stop ι2 h2 H2 e2.lo r2 c2, q2 ι2 σ2 H2 .refl r2 re2⟩
    · exact q2.elim

/-! ### [e for x in xs if t] -/
def wipR (ρ : Env') : List Nat → Env'
  | [] => ρ
  | v :: vs => (wipR ρ vs).set v none
theorem RlE.wipe {ι : Io} {ρ : Env'} {σ : L2.St} {H : Hp} (r : RlE G ι ρ σ H) : ∀ vs : List Nat, RlE G ι (wipR ρ vs) (L2.wipe σ vs) H
  | [] => r
  | v :: vs => (RlE.wipe r vs).unset
open Classical in
noncomputable def compL (chk : AH → Prop) (g : SemG) (mt : SemT) (me : SemE) (ρ : Env') : List W → AH → Out (List W)
  | [], h => if chk h then .ok [] h else .bad
  | x :: xs, h => if chk h then (match g x ρ with
    | some ρ1 => match mt ρ1 h with
      | .ok true h1 => match me ρ1 h1 with
        | .ok y h2 => match compL chk g mt me ρ xs h2 with
          | .ok ys h3 => .ok (y :: ys) h3
          | _ => .bad
        | _ => .bad
      | .ok false h1 => compL chk g mt me ρ xs h1
      | _ => .bad
    | none => .bad) else .bad
noncomputable def eComp (own : List Nat) (mi : SemI) (g : SemG) (mt : SemT) (me : SemE) : SemE := fun ρ h => (mi ρ h).bind fun p h1 => (compL p.2 g mt me (wipR ρ own) p.1 h1).bind fun ys h2 => .ofOpt ((allD ys).map fun ds => .d (.list ds)) h2
def tYesS : SemT := fun _ h => .ok true h
def JTs (G : Gd) (X : Cx) (m : SemT) (ts : List Expr) : Prop := ∀ U : WX, Takes X U → PTs X ts (rdT G U m)
theorem jts_nil : JTs G X tYesS [] := fun U _ => ⟨fun pins s σ H Q I h => pts_nil.run pins s σ H Q I (by
  obtain ⟨ι, ρ, h0, rh, re, q⟩ := h
  exact okT.here q rh)⟩
theorem jts_one {c : Expr} {m : SemT} (h : JT G X m c) : JTs G X m [c] := fun U t => pts_one (h U t)
theorem compL_len {chk : AH → Prop} {g : SemG} {mt : SemT} {me : SemE} {ρ : Env'} : ∀ {ws : List W} {h h' : AH} {ys : List W}, compL chk g mt me ρ ws h = .ok ys h' → ys.length ≤ ws.length
  | [], h, h', ys, e => by
    unfold compL at e
    split at e
    · cases e
      exact Nat.le_refl _
    · cases e
  | x :: xs, h, h', ys, e => by
    unfold compL at e
    split at e
    · split at e
      · split at e
        · split at e
          · split at e
            · rename_i q
              cases e
              have := compL_len q
              simp only [List.length_cons]
              omega
            · cases e
          · cases e
        · have := compL_len e
          simp only [List.length_cons]
          omega
        · cases e
      · cases e
    · cases e
/-- the loop of a comprehension: acc is what has come so far -/
theorem comp_core {U : WX} {J : It} {ι1 : Io} {H1 : Hp} {ws : List W} {chk : AH → Prop} {g : SemG} {r : TG} {sl own : List Nat} {mt : SemT} {me : SemE} {ρ : Env'} {h1 : AH} {σ : L2.St} {D : Addr} {Qd : Hp → Prop}
    (ok : ItOk G J ι1 H1 ws chk) (hlen : ws.length ≤ sizeLine) (r1 : RlH G ι1 h1 H1) (re : RlE G ι1 ρ σ H1) (hsl : ∀ i ∈ sl, i ∈ own) (nD : H1 D = none)
    (kg : ∀ (ι : Io) (H : Hp) (x : W) (v : V) (ρ ρ' : Env') (σ : L2.St) (Q : L2.St → Hp → Prop), RlE G ι ρ σ H → RepW G ι H x v → g x ρ = some ρ' → (∀ σ', RlE G ι ρ' σ' H → Sets sl σ σ' → Q σ' H) → r v σ H Q)
    (hU : ∀ c d σ H, ¬ U c d σ H) {ys : List W} {h2 : AH} (ev : compL chk g mt me (wipR ρ own) ws h1 = .ok ys h2)
    (hd : ∀ (ι' : Io) (H' : Hp) (vs : List V), Ext ι1 H1 ι' H' → RlH G ι' h2 H' → H' D = some (.lst vs) → RepWs G ι' H' ys vs → (∀ j, ι' j ≠ some D) → Qd H') :
    ∃ W' : Nat → Nat → Hp → Prop, (∃ m, W' 0 m (upd H1 D (.lst []))) ∧ ∀ i m H, W' i m H →
      (J.stop i H ∧ Qd H) ∨ (J.go i H ∧ ∃ Nx : Hp → Prop, (∀ H', Nx H' → ∃ m', m' < m ∧ W' (i + 1) m' H') ∧ ∀ x H', J.yld i H x H' → r x (wipe σ own) H' fun σ2 H2 => wipe σ2 own = wipe σ own ∧ rdT G U mt σ2 H2 fun b H3 =>
        if b = true then rdE G U me σ2 H3 fun y H4 => ∃ acc, H4 D = some (.lst acc) ∧ acc.length < sizeLine ∧ Nx (upd H4 D (.lst (acc ++ [y]))) else Nx H3) := by
  -- the invariant: what has come stands at D, what is left comes out
  refine ⟨fun i m H => i ≤ ws.length ∧ m = ws.length - i ∧ ∃ (ι : Io) (h : AH) (acc : List W) (av : List V) (rest : List W), Ext ι1 H1 ι H ∧ RlH G ι h H ∧ H D = some (.lst av) ∧ RepWs G ι H acc av ∧ acc.length ≤ i ∧ ys = acc ++ rest ∧ compL chk g mt me (wipR ρ own) (ws.drop i) h = .ok rest h2 ∧ ∀ j, ι j ≠ some D,
    ⟨ws.length, Nat.zero_le _, rfl, ι1, h1, [], [], ys, .fresh nD, r1.fresh nD, upd_same, .nil, Nat.zero_le _, rfl, ev, r1.nj nD⟩, ?_⟩
  rintro i m H ⟨hi, rfl, ι, h, acc, av, rest, e1, r2, hD, ra, la, ey, ec, nι⟩
  by_cases hlt : i < ws.length
  · rw [List.drop_eq_getElem_cons hlt] at ec
    unfold compL at ec
    split at ec
    case isFalse => cases ec
    rename_i c2
    refine .inr ⟨ok.go ι h H i e1.lo r2 c2 hlt, fun H => i + 1 ≤ ws.length ∧ ∃ (ι : Io) (h : AH) (acc : List W) (av : List V) (rest : List W), Ext ι1 H1 ι H ∧ RlH G ι h H ∧ H D = some (.lst av) ∧ RepWs G ι H acc av ∧ acc.length ≤ i + 1 ∧ ys = acc ++ rest ∧ compL chk g mt me (wipR ρ own) (ws.drop (i + 1)) h = .ok rest h2 ∧ ∀ j, ι j ≠ some D,
      fun H' z => ⟨ws.length - (i + 1), by omega, z.1, rfl, z.2⟩, fun x H' y => ?_⟩
    obtain ⟨x1, x2, w, x3, x4⟩ := ok.yld ι h H i x H' e1.lo r2 c2 hlt y
    rw [List.getElem?_eq_getElem hlt] at x3
    cases x3
    split at ec
    case h_2 => cases ec
    rename_i ρ1 eg
    have keepD : ∀ {ι' : Io} {H'' : Hp}, Ext ι H ι' H'' → H'' D = some (.lst av) := fun e => e.fr D _ hD nι (fun ps z => by cases z)
    have keepN : ∀ {ι' : Io} {H'' : Hp}, Ext ι H ι' H'' → ∀ j, ι' j ≠ some D := fun e j z => by
      rcases e.nw j D z with q | q
      · exact nι j q
      · exact q ⟨_, hD, fun ps z => by cases z⟩
    have e0 := e1.trans x1
    refine kg ι H' _ x _ ρ1 _ _ ((re.mono e0).wipe own) x4 eg fun σ2 re2 se2 => ⟨by rw [se2 own hsl, wipe_idem], ι, ρ1, h, x2, re2, ?_⟩
    cases et : mt ρ1 h with
    | bad => rw [et] at ec; cases ec
    | err c fs h' => rw [et] at ec; cases ec
    | ok b h3 =>
      rw [et] at ec
      intro ι3 H3 e3 r3
      have e03 := x1.trans e3
      cases b with
      | false =>
        dsimp only at ec
        rw [if_neg Bool.false_ne_true]
        exact ⟨hlt, ι3, h3, acc, av, rest, e1.trans e03, r3, keepD e03, ra.mono e03, by omega, ey, ec, keepN e03⟩
      | true =>
        dsimp only at ec
        rw [if_pos rfl]
        refine ⟨ι3, ρ1, h3, r3, re2.mono e3, ?_⟩
        cases ee : me ρ1 h3 with
        | bad => rw [ee] at ec; cases ec
        | err c fs h' => rw [ee] at ec; cases ec
        | ok z h4 =>
          rw [ee] at ec
          dsimp only at ec
          intro ι4 v H4 e4 r4 v4
          have e04 := e03.trans e4
          have d4 := keepD e04
          have n4 := keepN e04
          cases eq : compL chk g mt me (wipR ρ own) (ws.drop (i + 1)) h4 with
          | bad => rw [eq] at ec; cases ec
          | err c fs h' => rw [eq] at ec; cases ec
          | ok zs h5 =>
            rw [eq] at ec
            cases ec
            refine ⟨av, d4, by rw [← ra.length]; omega, hlt, ι4, h4, acc ++ [z], av ++ [v], zs, ?_, ?_, upd_same, ?_, by simp; omega, by rw [ey]; simp, eq, n4⟩
            · -- at D alone something changes, and D was new
              have x5 := e1.trans e04
              exact x5.after (Trk.no nD) (loose_lst d4)
            · exact r4.off n4 (loose_lst d4)
            · refine RepWs.mono0 (Ex0.off (loose_lst d4)) ?_
              have : ∀ {l : List W} {k : List V}, RepWs G ι4 H4 l k → RepWs G ι4 H4 (l ++ [z]) (k ++ [v]) := by
                intro l k p
                induction p with
                | nil => exact .cons v4 .nil
                | cons p1 _ ih => exact .cons p1 ih
              exact this (ra.mono e04)
  · have e : i = ws.length := by omega
    subst e
    rw [List.drop_length] at ec
    unfold compL at ec
    split at ec
    · rename_i c2
      cases ec
      refine .inl ⟨ok.stop ι _ H e1.lo r2 c2, hd ι H av e1 r2 hD ?_ nι⟩
      rw [ey, List.append_nil]
      exact ra
    · cases ec
/-- where no exception may leave, none does -/
abbrev U0 : WX := fun _ _ _ _ => False
theorem je_comp {elt tg iter : Expr} {ifs : List Expr} {scope : Scope} {own : List (Str × Nat)} {mi : SemI} {g : SemG} {sl : List Nat} {mt : SemT} {me : SemE} (hc : X.calm = true) (hN : X.N.Nodup) (hi : JI G X mi tg iter) (ok : BlkOk X.N X.env.scope scope own) (hsl : ∀ i ∈ sl, i ∈ own.map (·.2))
    (hg : ∃ r : TG, (∀ (s : Shared) (H : Hp) (C : Addr) (cl : List (Str × Addr)) (fp : List Addr), PG (X.blk s H scope (compEnvC scope cl C X.env) fp) tg r) ∧ ∀ (ι : Io) (H : Hp) (x : W) (v : V) (ρ ρ' : Env') (σ : L2.St) (Q : L2.St → Hp → Prop), RlE G ι ρ σ H → RepW G ι H x v → g x ρ = some ρ' → (∀ σ', RlE G ι ρ' σ' H → Sets sl σ σ' → Q σ' H) → r v σ H Q)
    (ht : ∀ (s : Shared) (H : Hp) (C : Addr) (cl : List (Str × Addr)) (fp : List Addr), JTs G (X.blk s H scope (compEnvC scope cl C X.env) fp) mt ifs)
    (he : ∀ (s : Shared) (H : Hp) (C : Addr) (cl : List (Str × Addr)) (fp : List Addr), JE G (X.blk s H scope (compEnvC scope cl C X.env) fp) me elt) (hs : ∀ x, foldedSetIterable iter X.env x = pure x := by intro _; rfl) :
    JE G X (eComp (own.map (·.2)) mi g mt me) (.ListComp elt [⟨tg, iter, ifs, 0⟩] scope pos) := fun U t => by
  obtain ⟨r, pg, kg⟩ := hg
  refine (pe_frz (pe_lc hc hN (hi U t) ok pg (fun s H C cl fp => ht s H C cl fp U0 L2.takes0) (fun s H C cl fp => he s H C cl fp U0 L2.takes0) hs)).imp fun σ H Q h => ?_
  obtain ⟨ι, ρ, h0, rh, re, q⟩ := h
  unfold eComp at q
  rw [to_bind] at q
  refine ⟨ι, ρ, h0, rh, re, Out.to_mono q (fun p h1 z ι1 H1 J e1 r1 jok hl D nD => ?_) fun _ _ _ z => z⟩
  obtain ⟨ws, chk⟩ := p
  dsimp only at z
  cases ec : compL chk g mt me (wipR ρ (own.map (·.2))) ws h1 with
  | bad => rw [ec] at z; exact z.elim
  | err c fs h2 =>
    -- the loop itself never ends so
    exfalso
    have never : ∀ (ws : List W) (h1 : AH), compL chk g mt me (wipR ρ (own.map (·.2))) ws h1 ≠ .err c fs h2 := by
      intro ws
      induction ws with
      | nil =>
        intro h1 e
        unfold compL at e
        split at e <;> cases e
      | cons x xs ih =>
        intro h1 e
        unfold compL at e
        split at e
        · split at e
          · split at e
            · split at e
              · split at e <;> cases e
              · cases e
            · exact ih _ e
            · cases e
          · cases e
        · cases e
    exact never ws h1 ec
  | ok ys h2 =>
    rw [ec] at z
    obtain ⟨w, ew, k⟩ := to_ofOpt z
    cases hd : allD ys with
    | none => rw [hd] at ew; cases ew
    | some ds =>
      rw [hd] at ew
      cases ew
      refine comp_core (U := U0) jok hl r1 (re.mono e1) hsl nD kg (fun _ _ _ _ z => z) ec fun ι' H' vs e2 r2 hD rv nj => .inr ⟨D, vs, rfl, hD, fun o => ?_⟩
      have rd := allD_rep hd rv
      have lo : Loose H' D := loose_lst hD
      exact k ι' _ _ ((e1.trans e2).after (e1.none_back nD) lo (fun ps z => by unfold frzO at z; cases z)) (r2.off nj lo) (.lst upd_same (RepDs.mono (Stb.write lo) _ _ rd))
end
end Q

set_option Elab.async false
set_option maxRecDepth 100000
set_option linter.all false
set_option autoImplicit false
namespace Q
open PySem PySem.Spec PyProof.Rows L2 LamX

/-! ### targets in a comprehension's block -/
def JGB (G : Gd) (X : Cx) (scope : Scope) (g : SemG) (sl : List Nat) (tg : Expr) : Prop := ∃ r : TG, (∀ (s : Shared) (H : Hp) (C : Addr) (cl : List (Str × Addr)) (fp : List Addr), PG (X.blk s H scope (compEnvC scope cl C X.env) fp) tg r) ∧ ∀ (ι : Io) (H : Hp) (x : W) (v : V) (ρ ρ' : Env') (σ : L2.St) (Q : L2.St → Hp → Prop), RlE G ι ρ σ H → RepW G ι H x v → g x ρ = some ρ' → (∀ σ', RlE G ι ρ' σ' H → Sets sl σ σ' → Q σ' H) → r v σ H Q
def JGsB (G : Gd) (X : Cx) (scope : Scope) (gs : SemGs) (sl : List Nat) (ts : List Expr) : Prop := ∃ r : TGs, (∀ (s : Shared) (H : Hp) (C : Addr) (cl : List (Str × Addr)) (fp : List Addr), PGs (X.blk s H scope (compEnvC scope cl C X.env) fp) ts r) ∧ ∀ (ι : Io) (H : Hp) (xs : List W) (vs : List V) (ρ ρ' : Env') (σ : L2.St) (Q : L2.St → Hp → Prop), RlE G ι ρ σ H → RepWs G ι H xs vs → gs xs ρ = some ρ' → (∀ σ', RlE G ι ρ' σ' H → Sets sl σ σ' → Q σ' H) → r vs σ H Q
section
variable {G : Gd} {X : Cx} {pos : Pos} {scope : Scope}
theorem jgb_name {i : Nat} {x : Str} (hN : X.N.Nodup) (hi : X.N[i]? = some x) (hx : ∀ (s : Shared) (H : Hp) (C : Addr) (cl : List (Str × Addr)) (fp : List Addr), Loc (X.blk s H scope (compEnvC scope cl C X.env) fp).env.scope x)
    (hf : ∀ (s : Shared) (H : Hp) (C : Addr) (cl : List (Str × Addr)) (fp : List Addr), (X.blk s H scope (compEnvC scope cl C X.env) fp).fn x = true ∨ (X.blk s H scope (compEnvC scope cl C X.env) fp).env.scope.names.lookup x = some .local) : JGB G X scope (gN i) [i] (.Name x pos) :=
  ⟨gName i, fun s H C cl fp => pg_name (X := X.blk s H scope (compEnvC scope cl C X.env) fp) hN hi (hx s H C cl fp) (hf s H C cl fp), fun ι H x v ρ ρ' σ Q re rv e k => by
    cases e
    exact k _ (re.set rv) (Sets.one σ i _)⟩
theorem jgsb_nil : JGsB G X scope gsNil [] [] := ⟨gNil, fun s H C cl fp => pgs_nil, fun ι H xs vs ρ ρ' σ Q re rv e k => by
  cases rv with
  | nil =>
    cases e
    exact ⟨rfl, k σ re fun _ _ => rfl⟩
  | cons _ _ => cases e⟩
theorem jgsb_cons {g : SemG} {gs : SemGs} {s1 s2 : List Nat} {e : Expr} {es : List Expr} (h1 : JGB G X scope g s1 e) (h2 : JGsB G X scope gs s2 es) (hs : ∀ (C : Addr) (cl : List (Str × Addr)), (assignEach (e :: es) (compEnvC scope cl C X.env)).map (·.2) = assign e (compEnvC scope cl C X.env) :: (assignEach es (compEnvC scope cl C X.env)).map (·.2) := by intros; rfl) : JGsB G X scope (gsCons g gs) (s1 ++ s2) (e :: es) := by
  obtain ⟨r1, p1, k1⟩ := h1
  obtain ⟨r2, p2, k2⟩ := h2
  refine ⟨_, fun s H C cl fp => pgs_cons (p1 s H C cl fp) (p2 s H C cl fp) (hs C cl), fun ι H xs vs ρ ρ' σ Q re rv e k => ?_⟩
  cases rv with
  | nil => cases e
  | cons rx rr =>
    rename_i x v xs vs
    have e' : (g x ρ).bind (gs xs) = some ρ' := e
    cases eg : g x ρ with
    | none => rw [eg] at e'; cases e'
    | some ρ1 =>
      rw [eg] at e'
      exact ⟨v, vs, rfl, k1 ι H x v ρ ρ1 σ _ re rx eg fun σ1 re1 se1 => k2 ι H xs vs ρ1 ρ' σ1 Q re1 rr e' fun σ2 re2 se2 => k σ2 re2 (se1.app se2)⟩
theorem jgb_tup {gs : SemGs} {sl : List Nat} {es : List Expr} {j n : Nat} (hc : X.calm = true) (hK : X.K = G.K) (h : JGsB G X scope gs sl es) (hn : ∀ (C : Addr) (cl : List (Str × Addr)), (assignEach es (compEnvC scope cl C X.env)).length = n := by intros; rfl) (hst : ∀ (C : Addr) (cl : List (Str × Addr)), (assignEach es (compEnvC scope cl C X.env)).findIdx? (·.1) = none := by intros; rfl) : JGB G X scope (gT n gs) sl (.Tuple es j pos) := by
  obtain ⟨r, p, k0⟩ := h
  refine ⟨gTup X.K n r, fun s H C cl fp => pg_tup (X := X.blk s H scope (compEnvC scope cl C X.env) fp) hc (p s H C cl fp) (hn C cl) (hst C cl), fun ι H x v ρ ρ' σ Q re rv e k => ?_⟩
  cases x with
  | d y =>
    cases y with
    | tuple ds =>
      cases rv with
      | @tup a xs _ h1 h2 =>
        have e' : (if ds.length = n then gs (ds.map .d) ρ else none) = some ρ' := e
        by_cases hl : ds.length = n
        · rw [if_pos hl] at e'
          exact ⟨a, xs, rfl, by rw [hK]; exact h1, by rw [h2.length]; exact hl, k0 ι H _ xs ρ ρ' σ Q re (rep_map h2) e' k⟩
        · rw [if_neg hl] at e'
          cases e'
    | _ => cases e
  | _ => cases e
end

/-! ### defs as functions -/
abbrev Fn := List W → AH → Out W
def mkFn (n : Nat) (b : SemS) : Fn := fun ws h => match b (ws.map some ++ List.replicate (n - ws.length) none) h with
  | .nx _ h' => .ok (.d .none) h'
  | .rt x h' => .ok x h'
  | .err c fs h' => .err c fs h'
  | _ => .bad
def spOf (G : Gd) (np : Nat) (fn : Fn) : Sp := fun vs H Q E => vs.length = np ∧ ∃ (ι : Io) (h : AH) (ws : List W), RlH G.bare ι h H ∧ RepWs G.bare ι H ws vs ∧ (fn ws h).to (okP G.bare ι H Q) (erP G.bare ι H E)
theorem RlH.bare {G : Gd} {ι : Io} {h : AH} {H : Hp} (r : RlH G ι h H) : RlH G.bare ι h H := ⟨fun i o hi => by
  obtain ⟨a, h1, h2⟩ := r.ob i o hi
  refine ⟨a, h1, ?_⟩
  cases o <;> exact h2, r.lt, r.inj, r.trk, r.tab⟩
theorem RlH.full {G : Gd} {ι : Io} {h : AH} {H : Hp} (r : RlH G.bare ι h H) : RlH G ι h H := ⟨fun i o hi => by
  obtain ⟨a, h1, h2⟩ := r.ob i o hi
  refine ⟨a, h1, ?_⟩
  cases o <;> exact h2, r.lt, r.inj, r.trk, r.tab⟩
theorem toBare {G : Gd} {ι : Io} {H : Hp} {Q : VK} {E : XK} {o : Out W} (k : o.to (okP G ι H Q) (erP G ι H E)) : o.to (okP G.bare ι H Q) (erP G.bare ι H E) :=
  Out.to_mono k (fun x h z ι' v H' e r rv => z ι' v H' e r.full rv.up) fun c fs h z ι' H' C d e r g x => z ι' H' C d e r.full g x
/-- a def of the module, and the function that it is -/
structure FnX (G : Gd) (X : Cx) (k : Nat) (x : String) (np : Nat) (fn : Fn) : Prop where
  ex : ∃ (f : Addr) (fd : FuncData) (ps : List Str), X.mg (Str.ofString x) = some (.ref f) ∧ PySem.W.keepIn X.K (.ref f) = true ∧ Binds X.K fd ps [] ∧ FnOk X.prog X.w X.K X.mg X.base (L2.CX X.prog X.w) k f fd ps (spOf G np fn)
def eCall (np : Nat) (fn : Fn) (ms : SemA) : SemE := fun ρ h => (ms ρ h).bind fun xs h1 => if xs.all W.flat = true ∧ xs.length = np then fn xs h1 else .bad
section
variable {G : Gd} {X : Cx} {pos p apos : Pos} {e o : Expr} {es : List Expr} {m mo : SemE} {ms : SemA} {k np : Nat} {x : String} {fn : Fn}
theorem sp_ok {U : WX} {σ : L2.St} {Q : VK} {ι1 : Io} {xs : List W} {h1 : AH} {vs : List V} {H1 : Hp} (r1 : RlH G ι1 h1 H1) (v1 : RepWs G ι1 H1 xs vs) (hx : xs.all W.flat = true ∧ xs.length = np) (m1 : (fn xs h1).to (okP G ι1 H1 Q) (erP G ι1 H1 (xk U σ))) : spOf G np fn vs H1 Q (WE U σ) :=
  ⟨by rw [← v1.length]; exact hx.2, ι1, h1, xs, r1.bare, v1.down hx.1, toBare m1⟩
theorem je_call (F : FnX G X k x np fn) (hr : Room k X.A) (hg : Gl X (Str.ofString x)) (ha : JA G X ms (e :: es)) (hdb : (Str.ofString x == ("__debug__" : Str)) = false := by decide) (he : starEach (e :: es) X.env = (false, eval e X.env) :: starEach es X.env := by rfl) (hpl : (backTo pos (starEach es X.env)).any (·.1) = false := by rfl) :
    JE G X (eCall np fn ms) (.Call (.Name (Str.ofString x) p) (e :: es) [] pos) := fun U t => by
  obtain ⟨f, fd, ps, gm, kp, hb, F⟩ := F.ex
  refine (pe_callS F hr hg gm kp hb (fun σ => passAt t σ) (ha U t) hdb he hpl).imp fun σ H Q h => ?_
  refine rdA_bind (k := fun xs h1 => if xs.all W.flat = true ∧ xs.length = np then fn xs h1 else .bad) h fun ι1 xs h1 vs H1 r1 v1 m1 => ?_
  split at m1
  · rename_i hx
    exact sp_ok r1 v1 hx m1
  · exact m1.elim
/-! ### instances -/
def lookS (f : String) : List (String × W) → Option W
  | [] => none
  | (g, w) :: r => if f = g then some w else lookS f r
theorem lookS_rel {F : W → V → Prop} {f : String} : ∀ {fs : List (String × W)} {fvs : List (Str × V)}, Paired (fun (p : String × W) (q : Str × V) => Str.ofString p.1 = q.1 ∧ F p.2 q.2) fs fvs → (lookS f fs = none ∧ fvs.lookup (Str.ofString f) = none) ∨ ∃ w v, lookS f fs = some w ∧ fvs.lookup (Str.ofString f) = some v ∧ F w v
  | _, _, .nil => .inl ⟨rfl, rfl⟩
  | (g, w) :: r, (g', v) :: r', .cons h t => by
    obtain ⟨h1, h2⟩ := h
    dsimp only at h1 h2
    subst h1
    unfold lookS
    rw [List.lookup_cons, ofString_beq]
    by_cases e : f = g
    · subst e
      rw [if_pos rfl, beq_self_eq_true]
      exact .inr ⟨w, v, rfl, rfl, h2⟩
    · rw [if_neg e, beq_eq_false_iff_ne.mpr e]
      exact lookS_rel t
/-- o.f -/
def eFld (c f : String) (mo : SemE) : SemE := fun ρ h => (mo ρ h).bind fun x h1 => match x with
  | .ref i => match h1.f i with
    | some (.ins c' fs) => if c' = c then .ofOpt (lookS f fs) h1 else .bad
    | _ => .bad
  | _ => .bad
theorem je_fld {c f : String} {C : Addr} (hG : G.mg = X.mg) (hm : X.mg (Str.ofString c) = some (.ref C)) (hC : Cls X.K C) (hf : NoAttr X.K C (Str.ofString f)) (ho : JE G X mo o) (hb : attributeBase o (Str.ofString f) X.env (eval o X.env) = eval o X.env := by rfl) : JE G X (eFld c f mo) (.Attribute o (Str.ofString f) pos) := fun U t =>
  (pe_fld (ho U t) hb).imp fun σ H Q h => by
    refine rd_bind h fun ι ι1 ρ x h1 v H1 e1 r1 re1 v1 m1 => ?_
    split at m1
    · split at m1
      · rename_i i _ c' fs hi
        split at m1
        · rename_i ec
          subst ec
          obtain ⟨a, hia, ev⟩ := v1
          obtain ⟨b, hib, C', dx, fvs, b1, b2, b3⟩ := r1.ob i _ hi
          rw [hia] at hib
          cases hib
          rw [hG, hm] at b1
          cases b1
          rcases lookS_rel (f := f) b3 with ⟨e1, _⟩ | ⟨w, u, e1, e2, e3⟩
          · rw [e1] at m1
            exact m1.elim
          · rw [e1] at m1
            exact ⟨a, C, dx, fvs, u, ev, b2, hC, hf, e2, okP.here m1 r1 e3.up⟩
        · exact m1.elim
      · exact m1.elim
    · exact m1.elim
/-- o.f = e -/
def putS (f : String) (w : W) : List (String × W) → List (String × W)
  | [] => [(f, w)]
  | (g, u) :: r => if g = f then (g, w) :: r else (g, u) :: putS f w r
theorem putS_rel {F : W → V → Prop} {f : String} {w : W} {v : V} (h : F w v) : ∀ {fs : List (String × W)} {fvs : List (Str × V)}, Paired (fun (p : String × W) (q : Str × V) => Str.ofString p.1 = q.1 ∧ F p.2 q.2) fs fvs → Paired (fun (p : String × W) (q : Str × V) => Str.ofString p.1 = q.1 ∧ F p.2 q.2) (putS f w fs) (putF (Str.ofString f) v fvs)
  | _, _, .nil => .cons ⟨rfl, h⟩ .nil
  | (g, u) :: r, (g', u') :: r', .cons q t => by
    obtain ⟨h1, h2⟩ := q
    dsimp only at h1 h2
    subst h1
    show Paired _ (if g = f then (g, w) :: r else (g, u) :: putS f w r) (if Str.ofString g = Str.ofString f then (Str.ofString g, v) :: r' else (Str.ofString g, u') :: putF (Str.ofString f) v r')
    by_cases e : g = f
    · subst e
      rw [if_pos rfl, if_pos rfl]
      exact .cons ⟨rfl, h⟩ t
    · rw [if_neg e, if_neg (fun z => e (ofString_inj z))]
      exact .cons ⟨rfl, h2⟩ (putS_rel h t)
def sFldS (c f : String) (mo m : SemE) : SemS := fun ρ h => (m ρ h).st fun w h1 => (mo ρ h1).st fun x h2 => match x with
  | .ref i => match h2.f i with
    | some (.ins c' fs) => if c' = c ∧ w.flat = true ∧ fs.length < 1000 then .nx ρ (h2.set i (.ins c' (putS f w fs))) else .bad
    | _ => .bad
  | _ => .bad
theorem js_fld {c f : String} {C : Addr} {pos' : Pos} (hG : G.mg = X.mg) (hm : X.mg (Str.ofString c) = some (.ref C)) (hC : Cls X.K C) (hf : NoAttr X.K C (Str.ofString f)) (ho : JE G X mo o) (ha : JE G X m e) (hs : swapsWith e (some (.Attribute o (Str.ofString f) pos')) pos.line X.env = pure false := by rfl) : JS G X (sFldS c f mo m) (.Assign [.Attribute o (Str.ofString f) pos'] e pos) := fun U t =>
  (ps_fld (ho U t) (ha U t) hs).imp fun D σ H h => by
    refine rdS_bind (k := fun w ρ h1 => (mo ρ h1).st fun x h2 => match x with
      | .ref i => match h2.f i with
        | some (.ins c' fs) => if c' = c ∧ w.flat = true ∧ fs.length < 1000 then .nx ρ (h2.set i (.ins c' (putS f w fs))) else .bad
        | _ => .bad
      | _ => .bad) h fun ι1 ρ w h1 u H1 r1 re1 u1 q => ?_
    refine ⟨ι1, ρ, h1, r1, re1, Out.to_mono (st_to (σ := σ) q) (fun x h2 z ι2 v H2 e2 r2 v2 => ?_) fun _ _ _ z => z⟩
    split at z
    · split at z
      · rename_i i _ c' fs hi
        split at z
        · rename_i ec
          obtain ⟨rfl, hw, hl⟩ := ec
          obtain ⟨a, hia, ev⟩ := v2
          obtain ⟨b, hib, C', dx, fvs, b1, b2, b3⟩ := r2.ob i _ hi
          rw [hia] at hib
          cases hib
          rw [hG, hm] at b1
          cases b1
          have lo : Loose H2 a := ⟨fun _ z => (by rw [b2] at z; cases z), fun _ _ z => (by rw [b2] at z; cases z), fun _ z => (by rw [b2] at z; cases z), fun _ z => by rw [b2] at z; unfold CodeO at z; cases z⟩
          have x2 : Ext ι2 H2 ι2 (upd H2 a (.ins C dx (putF (Str.ofString f) u fvs))) := .write hia lo
          refine ⟨a, C, dx, fvs, ev, b2, hC, hf, by rw [← b3.length]; exact hl, z ι2 σ _ (e2.trans x2) (r2.write hia lo ?_) (re1.mono (e2.trans x2))⟩
          refine ⟨C, dx, _, by rw [hG]; exact hm, upd_same, ?_⟩
          refine putS_rel (F := RepW G.bare ι2 _) ((u1.down hw).mono (e2.trans x2)) ?_
          exact paired_fs_mono (fun _ _ r => r.mono x2) b3
        · exact z.elim
      · exact z.elim
    · exact z.elim
end
end Q

set_option Elab.async false
set_option maxRecDepth 100000
set_option linter.all false
set_option autoImplicit false
namespace Q
open PySem PySem.Spec PyProof.Rows L2 LamX

/-- a method of the class at C, and the function that it is (the instance first) -/
structure MtX (G : Gd) (X : Cx) (k : Nat) (C : Addr) (m : String) (np : Nat) (fn : Fn) : Prop where
  ex : ∃ (f : Addr) (fd : FuncData) (ps : List Str), Meth X.K C (Str.ofString m) f ∧ Binds X.K fd ps [] ∧ FnOk X.prog X.w X.K X.mg X.base (L2.CX X.prog X.w) k f fd ps (spOf G np fn)
def noS (f : String) (fs : List (String × W)) : Bool := fs.all fun p => p.1 != f
theorem noS_look {f : String} : ∀ {fs : List (String × W)}, noS f fs = true → lookS f fs = none
  | [], _ => rfl
  | (g, w) :: r, h => by
    unfold noS at h
    simp only [List.all_cons, Bool.and_eq_true, bne_iff_ne, ne_eq] at h
    unfold lookS
    rw [if_neg (fun z => h.1 z.symm)]
    exact noS_look h.2
def eMeth (c m : String) (np : Nat) (fn : Fn) (mo : SemE) (ms : SemA) : SemE := fun ρ h => (mo ρ h).bind fun x h1 => match x with
  | .ref i => match h1.f i with
    | some (.ins c' fs) => if c' = c ∧ noS m fs = true then (ms ρ h1).bind fun xs h2 => if xs.all W.flat = true ∧ xs.length + 1 = np then fn (.ref i :: xs) h2 else .bad else .bad
    | _ => .bad
  | _ => .bad
section
variable {G : Gd} {X : Cx} {pos p apos : Pos} {e o : Expr} {es : List Expr} {m mo : SemE} {ms : SemA} {k np : Nat} {c x mt : String} {fn : Fn} {C : Addr}
/-- what a method's call asks, whatever is wished of exceptions -/
def tMethU (C : Addr) (mt : Str) (sp : Sp) (U : WX) (ta : TE) (t : TA) : TE := fun σ H Q => ta σ H fun x H1 => ∃ a dx fs, x = .ref a ∧ H1 a = some (.ins C dx fs) ∧ fs.lookup mt = none ∧ t σ H1 fun vs H2 => sp (x :: vs) H2 Q (WE U σ)
theorem pe_methU {sp : Sp} {U : WX} {ta : TE} {t : TA} {f : Addr} {fd : FuncData} {ps : List Str} {pl : Sem Bool} {mt : Str} (he : PE X o ta) (c : Cls X.K C) (hm : Meth X.K C mt f) (F : FnOk X.prog X.w X.K X.mg X.base (L2.CX X.prog X.w) k f fd ps sp) (hr : Room k X.A) (hb : Binds X.K fd ps []) (tk : Takes X U) (ha : PA X (e :: es) t)
    (hst : starEach (e :: es) X.env = (false, eval e X.env) :: starEach es X.env := by rfl) (hpl : (backTo pos (starEach es X.env)).any (·.1) = false := by rfl)
    (ht : eval (.Call (.Attribute o mt apos) (e :: es) [] pos) X.env = (do
      let obj ← eval o X.env
      standAt apos.atName
      let (g, fst) ← holding [obj] (getMethod obj mt pl)
      callWith pos g fst (backTo pos (starEach (e :: es) X.env)) (backToKw pos (keywordEach [] X.env))) := by rfl) : PE X (.Call (.Attribute o mt apos) (e :: es) [] pos) (tMethU C mt sp U ta t) := by
  constructor
  intro pins s σ H Q I h
  have first := he.run pins s σ H _ I h
  refine PySem.W.methodCall_KW (pl := pl) (thn first fun u s1 hu => ?_) ht
  obtain ⟨x, H1, I1, rx, a, dx, fs, ex, ea, l, q⟩ := hu
  subst ex
  cases rx
  refine getmeth_ok I1 ea c hm l ?_
  have more := ha.run pos pins s1 σ H1 _ I1 q
  refine PySem.W.callWith_K (first := [.ref a]) (h₀ := X.base) I.ok.mod.kin hm.kp (thn more fun us s2 hv => ?_) hst hpl
  obtain ⟨vs, H2, I2, r, q2⟩ := hv
  exact ⟨I2.kIn, run_fnS (E := WE U) (us := .ref a :: us) (vs := .ref a :: vs) F hr hb (passAt tk σ) I2 (.cons rfl r) q2⟩
theorem pe_methU0 {sp : Sp} {U : WX} {ta : TE} {f : Addr} {fd : FuncData} {ps : List Str} {pl : Sem Bool} {mt : Str} (he : PE X o ta) (c : Cls X.K C) (hm : Meth X.K C mt f) (F : FnOk X.prog X.w X.K X.mg X.base (L2.CX X.prog X.w) k f fd ps sp) (hr : Room k X.A) (hb : Binds X.K fd ps []) (tk : Takes X U)
    (ht : eval (.Call (.Attribute o mt apos) [] [] pos) X.env = (do
      let obj ← eval o X.env
      standAt apos.atName
      let (g, fst) ← holding [obj] (getMethod obj mt pl)
      callWith pos g fst (backTo pos (starEach [] X.env)) (backToKw pos (keywordEach [] X.env))) := by rfl) : PE X (.Call (.Attribute o mt apos) [] [] pos) (tMethU C mt sp U ta tNil) := by
  constructor
  intro pins s σ H Q I h
  have first := he.run pins s σ H _ I h
  refine PySem.W.methodCall_KW (pl := pl) (thn first fun u s1 hu => ?_) ht
  obtain ⟨x, H1, I1, rx, a, dx, fs, ex, ea, l, q⟩ := hu
  subst ex
  cases rx
  refine getmeth_ok I1 ea c hm l ?_
  exact PySem.W.callWith_K0 (first := [.ref a]) I1.kIn hm.kp (run_fnS (E := WE U) (us := [.ref a]) (vs := [.ref a]) F hr hb (passAt tk σ) I1 (.cons rfl .nil) q)
/-- the instance, read off -/
theorem meth_red {U : WX} {σ : L2.St} {H : Hp} {Q : VK} {t : TA} (hG : G.mg = X.mg) (hm : X.mg (Str.ofString c) = some (.ref C)) (h : rdE G U (eMeth c mt np fn mo ms) σ H Q)
    (ht : ∀ (ι1 : Io) (ρ : Env') (h1 : AH) (H1 : Hp) (i : Nat) (a : Addr), RlH G ι1 h1 H1 → RlE G ι1 ρ σ H1 → ι1 i = some a → ((ms ρ h1).bind fun xs h2 => if xs.all W.flat = true ∧ xs.length + 1 = np then fn (.ref i :: xs) h2 else .bad).to (okP G ι1 H1 Q) (erP G ι1 H1 (xk U σ)) → t σ H1 fun vs H2 => spOf G np fn (.ref a :: vs) H2 Q (WE U σ)) : tMethU C (Str.ofString mt) (spOf G np fn) U (rdE G U mo) t σ H Q := by
  refine rd_bind h fun ι ι1 ρ x h1 v H1 e1 r1 re1 v1 m1 => ?_
  split at m1
  · split at m1
    · rename_i i _ c' fs hi
      split at m1
      · rename_i ec
        obtain ⟨rfl, hn⟩ := ec
        obtain ⟨a, hia, ev⟩ := v1
        obtain ⟨b, hib, C', dx, fvs, b1, b2, b3⟩ := r1.ob i _ hi
        rw [hia] at hib
        cases hib
        rw [hG, hm] at b1
        cases b1
        subst ev
        have hl : fvs.lookup (Str.ofString mt) = none := by
          rcases lookS_rel (f := mt) b3 with ⟨_, e2⟩ | ⟨w, u, e2, _, _⟩
          · exact e2
          · rw [noS_look hn] at e2
            cases e2
        exact ⟨a, dx, fvs, rfl, b2, hl, ht ι1 ρ h1 H1 i a r1 re1 hia m1⟩
      · exact m1.elim
    · exact m1.elim
  · exact m1.elim
theorem je_meth {pl : Sem Bool} (hG : G.mg = X.mg) (hm : X.mg (Str.ofString c) = some (.ref C)) (hC : Cls X.K C) (F : MtX G X k C mt np fn) (hr : Room k X.A) (ho : JE G X mo o) (ha : JA G X ms (e :: es))
    (hst : starEach (e :: es) X.env = (false, eval e X.env) :: starEach es X.env := by rfl) (hpl : (backTo pos (starEach es X.env)).any (·.1) = false := by rfl)
    (ht : eval (.Call (.Attribute o (Str.ofString mt) apos) (e :: es) [] pos) X.env = (do
      let obj ← eval o X.env
      standAt apos.atName
      let (g, fst) ← holding [obj] (getMethod obj (Str.ofString mt) pl)
      callWith pos g fst (backTo pos (starEach (e :: es) X.env)) (backToKw pos (keywordEach [] X.env))) := by rfl) : JE G X (eMeth c mt np fn mo ms) (.Call (.Attribute o (Str.ofString mt) apos) (e :: es) [] pos) := fun U t => by
  obtain ⟨f, fd, ps, me, hb, F⟩ := F.ex
  refine (pe_methU (ho U t) hC me F hr hb t (ha U t) hst hpl ht).imp fun σ H Q h => meth_red hG hm h fun ι1 ρ h1 H1 i a r1 re1 hia m1 => ?_
  rw [to_bind] at m1
  refine ⟨ι1, ρ, h1, r1, re1, Out.to_mono m1 (fun xs h2 z ι2 vs H2 e2 r2 v2 => ?_) fun _ _ _ z => z⟩
  split at z
  · rename_i hx
    refine sp_ok r2 (.cons (show RepW G ι2 H2 (.ref i) (.ref a) from ⟨a, e2.up i a hia, rfl⟩) v2) ⟨?_, by simpa using hx.2⟩ (toUpP e2 z)
    simp only [List.all_cons, Bool.and_eq_true]
    exact ⟨rfl, hx.1⟩
  · exact z.elim
theorem je_meth0 {pl : Sem Bool} (hG : G.mg = X.mg) (hm : X.mg (Str.ofString c) = some (.ref C)) (hC : Cls X.K C) (F : MtX G X k C mt np fn) (hr : Room k X.A) (ho : JE G X mo o)
    (ht : eval (.Call (.Attribute o (Str.ofString mt) apos) [] [] pos) X.env = (do
      let obj ← eval o X.env
      standAt apos.atName
      let (g, fst) ← holding [obj] (getMethod obj (Str.ofString mt) pl)
      callWith pos g fst (backTo pos (starEach [] X.env)) (backToKw pos (keywordEach [] X.env))) := by rfl) : JE G X (eMeth c mt np fn mo aNil) (.Call (.Attribute o (Str.ofString mt) apos) [] [] pos) := fun U t => by
  obtain ⟨f, fd, ps, me, hb, F⟩ := F.ex
  refine (pe_methU0 (ho U t) hC me F hr hb t ht).imp fun σ H Q h => meth_red hG hm h fun ι1 ρ h1 H1 i a r1 re1 hia m1 => ?_
  have m1 : (if ([] : List W).all W.flat = true ∧ ([] : List W).length + 1 = np then fn [.ref i] h1 else .bad).to (okP G ι1 H1 Q) (erP G ι1 H1 (xk U σ)) := m1
  split at m1
  · rename_i hx
    exact sp_ok r1 (.cons (show RepW G ι1 H1 (.ref i) (.ref a) from ⟨a, hia, rfl⟩) .nil) ⟨rfl, by simpa using hx.2⟩ m1
  · exact m1.elim
/-- f() -/
theorem je_call0 (F : FnX G X k x 0 fn) (hr : Room k X.A) (hg : Gl X (Str.ofString x)) (hdb : (Str.ofString x == ("__debug__" : Str)) = false := by decide) : JE G X (eCall 0 fn aNil) (.Call (.Name (Str.ofString x) p) [] [] pos) := fun U t => by
  obtain ⟨f, fd, ps, gm, kp, hb, F⟩ := F.ex
  constructor
  intro pins s σ H Q I h
  obtain ⟨ι, ρ, h0, rh, re, q⟩ := h
  refine wpAny_Call_Name_kw (ld_glob I hg gm ?_ hdb)
  refine PySem.W.callWith_K0 I.kIn kp (run_fnS (E := WE U) (us := []) (vs := []) F hr hb (passAt t σ) I .nil ?_)
  have q : (if ([] : List W).all W.flat = true ∧ ([] : List W).length = 0 then fn [] h0 else .bad).to (okP G ι H Q) (erP G ι H (xk U σ)) := q
  rw [if_pos ⟨rfl, rfl⟩] at q
  exact sp_ok rh .nil ⟨rfl, rfl⟩ q
/-- C(..) -/
def eMake (c : String) (np : Nat) (fn : Fn) (ms : SemA) : SemE := fun ρ h => (ms ρ h).bind fun xs h1 => if xs.all W.flat = true ∧ xs.length + 1 = np then (fn (.ref h1.n :: xs) (h1.new (.ins c []))).bind fun r h2 => match r with
  | .d .none => .ok (.ref h1.n) h2
  | _ => .bad else .bad
/-- a class of the program that can be made, and its __init__ as a function -/
structure MkX (G : Gd) (X : Cx) (k : Nat) (c : String) (C : Addr) (np : Nat) (fn : Fn) : Prop where
  gm : X.mg (Str.ofString c) = some (.ref C)
  ex : ∃ (f : Addr) (fd : FuncData) (ps : List Str), Mk X.K C f ∧ Binds X.K fd ps [] ∧ FnOk X.prog X.w X.K X.mg X.base (L2.CX X.prog X.w) k f fd ps (spOf G np fn)
theorem run_makeU {pins : List (Addr × Obj)} {σ : L2.St} {H : Hp} {s : Shared} {Q : VK} {us : List Value} {vs : List V} {f : Addr} {fd : FuncData} {ps : List Str} {sp : Sp} {U : WX} (M : Mk X.K C f) (F : FnOk X.prog X.w X.K X.mg X.base (L2.CX X.prog X.w) k f fd ps sp) (hr : Room (k + 1) X.A) (hb : Binds X.K fd ps [])
    (tk : Takes X U) (I : Inv X pins σ H s) (r : Vals vs us) (h : ∀ x dx, H x = none → H dx = none → dx ≠ x → sp (.ref x :: vs) (upd (upd H dx (.own x)) x (.ins C dx [])) (fun v H2 => v = .non ∧ Q (.ref x) H2) (WE U σ)) :
    wpAny (model X.prog X.w) X.A (call (.ref C) us) (EP X pins σ Q) X.xe s := by
  have n1 := I.hok.fresh (Nat.le_succ s.heap.objs.size)
  have n0 := I.hok.fresh (Nat.le_refl s.heap.objs.size)
  have hq := h _ _ n1 n0 (Nat.ne_of_lt (Nat.lt_succ_self _))
  have I2 := Inv.made (C := C) I
  have r2 : Vals (V.ref (s.heap.objs.size + 1) :: vs) (Value.ref (s.heap.objs.size + 1) :: us) := .cons rfl r
  have hl : (Value.ref (s.heap.objs.size + 1) :: us).length = ps.length := by
    rw [← r2.length]
    exact F.len _ _ _ _ hq
  have bd := hb _ (Value.ref (s.heap.objs.size + 1) :: us) I2.kIn (by rw [List.append_nil]; exact hl)
  rw [List.append_nil] at bd
  have run := F.run _ X.stack _ _ ⟨Value.ref (s.heap.objs.size + 1) :: us, []⟩ _ _ _ (WE U σ) (hr.make C us []) (I2.env0.make C us []) bd r2 hq
  refine wpAny_call (make_map (f := f) I.kIn M.makes M.init (beq_iff_eq.mp M.fn) (codeAny_mono run fun r s' hq' => ?_))
  cases r with
  | error e => exact passAt tk σ pins _ _ e s' I2 hq'
  | ok fl =>
    cases fl with
    | ret u =>
      obtain ⟨v, H', I3, rv, ev, q3⟩ := I2.after hq'
      subst ev
      exact ⟨rv, V.ref (s.heap.objs.size + 1), H', I3, rfl, q3⟩
    | next => exact False.elim hq'
    | brk => exact False.elim hq'
    | cont => exact False.elim hq'
theorem make_red {U : WX} {σ : L2.St} {Q : VK} {xs : List W} {vs : List V} {ι1 : Io} {h1 : AH} {H1 : Hp} (hG : G.mg = X.mg) (gm : X.mg (Str.ofString c) = some (.ref C)) (r1 : RlH G ι1 h1 H1) (v1 : RepWs G ι1 H1 xs vs) (m1 : (if xs.all W.flat = true ∧ xs.length + 1 = np then (fn (.ref h1.n :: xs) (h1.new (.ins c []))).bind fun r h2 => match r with
  | .d .none => .ok (.ref h1.n) h2
  | _ => .bad else .bad).to (okP G ι1 H1 Q) (erP G ι1 H1 (xk U σ))) : ∀ x dx, H1 x = none → H1 dx = none → dx ≠ x → spOf G np fn (.ref x :: vs) (upd (upd H1 dx (.own x)) x (.ins C dx [])) (fun v H2 => v = .non ∧ Q (.ref x) H2) (WE U σ) := by
  intro x dx nx nd ne
  split at m1
  case isFalse => exact m1.elim
  rename_i hx
  have nx' : (upd H1 dx (.own x)) x = none := by rw [upd_ne (Ne.symm ne)]; exact nx
  have e2 : Ext ι1 H1 (Io.new ι1 h1.n x) (upd (upd H1 dx (.own x)) x (.ins C dx [])) := (Ext.fresh nd).trans ((r1.fresh nd).newExt nx')
  have r2 : RlH G (Io.new ι1 h1.n x) (h1.new (.ins c [])) (upd (upd H1 dx (.own x)) x (.ins C dx [])) := (r1.fresh nd).new nx' ⟨C, dx, [], by rw [hG]; exact gm, upd_same, .nil⟩
  rw [to_bind] at m1
  refine ⟨by rw [List.length_cons, ← v1.length]; exact hx.2, _, h1.new (.ins c []), .ref h1.n :: xs, r2.bare, .cons ⟨x, Io.new_same, rfl⟩ ((v1.down hx.1).mono e2), Out.to_mono m1 (fun r h2 z ι3 v H3 e3 r3 v3 => ?_) fun c' fs h2 z ι3 H3 D d e3 r3 g3 x3 => z ι3 H3 D d (e2.trans e3) r3.full g3 x3⟩
  split at z
  · cases v3
    exact ⟨rfl, z ι3 _ H3 (e2.trans e3) r3.full ⟨x, e3.up _ _ Io.new_same, rfl⟩⟩
  · exact z.elim
theorem je_make (M : MkX G X k c C np fn) (hG : G.mg = X.mg) (hr : Room (k + 1) X.A) (hg : Gl X (Str.ofString c)) (ha : JA G X ms (e :: es)) (hdb : (Str.ofString c == ("__debug__" : Str)) = false := by decide) (he : starEach (e :: es) X.env = (false, eval e X.env) :: starEach es X.env := by rfl) (hpl : (backTo pos (starEach es X.env)).any (·.1) = false := by rfl) :
    JE G X (eMake c np fn ms) (.Call (.Name (Str.ofString c) p) (e :: es) [] pos) := fun U t => by
  obtain ⟨f, fd, ps, mk, hb, F⟩ := M.ex
  constructor
  intro pins s σ H Q I h
  have h' : rdA G U ms σ H fun vs H1 => ∀ x dx, H1 x = none → H1 dx = none → dx ≠ x → spOf G np fn (.ref x :: vs) (upd (upd H1 dx (.own x)) x (.ins C dx [])) (fun v H2 => v = .non ∧ Q (.ref x) H2) (WE U σ) :=
    rdA_bind h fun ι1 xs h1 vs H1 r1 v1 m1 => make_red hG M.gm r1 v1 m1
  refine wpAny_Call_Name_kw (ld_glob I hg M.gm ?_ hdb)
  have args := (ha U t).run pos pins s σ H _ I h'
  refine PySem.W.callWith_K (h₀ := X.base) I.ok.mod.kin mk.kp (thn args fun us s1 hv => ?_) he hpl
  obtain ⟨vs, H1, I1, r, q⟩ := hv
  exact ⟨I1.kIn, run_makeU mk F hr hb t I1 r q⟩
theorem je_make0 (M : MkX G X k c C 1 fn) (hG : G.mg = X.mg) (hr : Room (k + 1) X.A) (hg : Gl X (Str.ofString c)) (hdb : (Str.ofString c == ("__debug__" : Str)) = false := by decide) : JE G X (eMake c 1 fn aNil) (.Call (.Name (Str.ofString c) p) [] [] pos) := fun U t => by
  obtain ⟨f, fd, ps, mk, hb, F⟩ := M.ex
  constructor
  intro pins s σ H Q I h
  obtain ⟨ι, ρ, h0, rh, re, q⟩ := h
  refine wpAny_Call_Name_kw (ld_glob I hg M.gm ?_ hdb)
  exact PySem.W.callWith_K0 I.kIn mk.kp (run_makeU (us := []) (vs := []) mk F hr hb t I .nil (make_red (xs := []) hG M.gm rh .nil q))
end

/-! ### a def of the text, from its body -/
theorem fn_ok {G : Gd} {P : Program} {w : World} {K : PySem.W.Frag} {mg : Str → Option Value} {base : Heap} {x qual : Str} {st : Stmt} {f : Addr} {fd : FuncData} {N ps : List Str} {k np n : Nat} {b : SemS} (F : Fun K x qual st f fd) (S : FnScope N ps (defScope st)) (hn : N.length = n) (hp : ps.length = np) (hnp : np ≤ n)
    (hbody : ∀ (cdv : Value) (A : Around) (outer : List Env) (s : Shared) (H : Hp) (E : XK), Room k (A.deeper (envOfC qual (defScope st) s.heap.objs.size f cdv)) → JSs G.bare (cxOf (L2.CX P w) P w K mg base N qual (defScope st) f cdv A outer s H E) b (defBody st)) : FnOk P w K mg base (L2.CX P w) (k + 1) f fd ps (spOf G np (mkFn n b)) := by
  refine F.okX S (fun vs H Q E h => by rw [hp]; exact h.1) fun cdv A outer s H vs Q E hr h => ?_
  obtain ⟨hl, ι, h0, ws, rh, rw0, q⟩ := h
  refine ⟨_, hbody cdv A outer s H E hr (fun c d _ H' => E c d H') (takes_of rfl rfl rfl rfl), ι, ws.map some ++ List.replicate (n - ws.length) none, h0, rh, ⟨?_, fun i y hy => ?_⟩, ?_⟩
  · unfold L2.start
    rw [List.length_append, List.length_append, List.length_map, List.length_map, List.length_replicate, List.length_replicate, rw0.length, hn]
  · have hi : i < ws.length := by
      by_cases hi : i < ws.length
      · exact hi
      · rw [List.getElem?_append_right (by simpa using hi), List.getElem?_replicate] at hy
        split at hy <;> cases hy
    rw [List.getElem?_append_left (by simpa using hi), List.getElem?_map] at hy
    cases e : ws[i]? with
    | none => rw [e] at hy; cases hy
    | some z =>
      rw [e] at hy
      cases hy
      obtain ⟨v, e1, r1⟩ := Paired.get1 rw0 e
      refine ⟨v, ?_, r1⟩
      unfold L2.start
      rw [List.getElem?_append_left (by rw [List.length_map, ← rw0.length]; exact hi), List.getElem?_map, e1]
      rfl
  · unfold mkFn at q
    cases e : b (ws.map some ++ List.replicate (n - ws.length) none) h0 with
    | nx ρ' h' =>
      rw [e] at q
      exact fun ι' σ' H' e1 r1 _ => q ι' .non H' e1 r1 .non
    | rt y h' =>
      rw [e] at q
      exact fun ι' v H' e1 r1 v1 => q ι' v H' e1 r1 v1
    | err c fs h' =>
      rw [e] at q
      exact fun ι' σ' H' C d e1 r1 g x1 => q ι' H' C d e1 r1 g x1
    | bk ρ' h' => rw [e] at q; exact q.elim
    | ct ρ' h' => rw [e] at q; exact q.elim
    | bad => rw [e] at q; exact q.elim
end Q

set_option Elab.async false
set_option maxRecDepth 100000
set_option linter.all false
set_option autoImplicit false
set_option maxHeartbeats 4000000
namespace Q
open PySem PySem.Spec PyProof.Rows L2 LamX
open Sem (wp)

/-! ### dicts whose keys are whole numbers, texts, None and tuples of such, mixed -/
section
variable {prog : Program} {w : World} {A : Around} {E : Value → Shared → Prop} {s : Shared}
/-- the value v is the key k -/
def KeyV (h : Heap) (k : NestedKey) (v : Value) : Prop := NestedIs h k v ∧ k.depth ≤ 8
theorem KeyV.inj {h : Heap} {a b : NestedKey} {v : Value} (x : KeyV h a v) (y : KeyV h b v) : a = b := NestedIs.inj _ _ _ x.1 y.1
theorem KeyV.eqB {a b : NestedKey} {u v : Value} {Q : Bool → Shared → Prop} (hu : A.units + 8 < cLine) (x : KeyV s.heap a u) (y : KeyV s.heap b v) (h : Q (decide (a = b)) s) : wpAny (model prog w) A (eqBool u v) Q E s :=
  eqAt_key a b A s u v x.1 y.1 (by have := x.2; omega) _ _ _ _ (by rw [← NestedKey.decide_eq]; exact h)
theorem KeyV.quiet {a : NestedKey} {u : Value} {Q : Bool → Shared → Prop} (x : KeyV s.heap a u) (h : Q true s) : wpAny (model prog w) A (eqIsQuiet 8 u) Q E s := quiet_key a u 8 s x.1 x.2 A E Q h
/-- the entries es bear the keys ks -/
structure Ents (w : World) (h : Heap) (es : Array DictEntry) (ks : List NestedKey) : Prop where
  len : es.size = ks.length
  at_ : ∀ (j : Nat) (hj : j < es.size), ∃ k, ks[j]? = some k ∧ KeyV h k es[j].key ∧ es[j].hash = k.hash w
  nd : ks.Nodup
theorem nodup_ix' : ∀ {ks : List NestedKey}, ks.Nodup → ∀ {i j : Nat} {k : NestedKey}, ks[i]? = some k → ks[j]? = some k → i = j
  | [], _, _, _, _, h1, _ => by simp at h1
  | a :: ks, n, 0, 0, _, _, _ => rfl
  | a :: ks, n, 0, j + 1, k, h1, h2 => by
    simp at h1 h2
    subst h1
    exact absurd (List.mem_of_getElem? h2) (List.nodup_cons.mp n).1
  | a :: ks, n, i + 1, 0, k, h1, h2 => by
    simp at h1 h2
    subst h2
    exact absurd (List.mem_of_getElem? h1) (List.nodup_cons.mp n).1
  | a :: ks, n, i + 1, j + 1, k, h1, h2 => by
    simp at h1 h2
    rw [nodup_ix' (List.nodup_cons.mp n).2 h1 h2]
theorem tells_not {key : Value} {k : NestedKey} {stored : List Value} {Q : Bool → Shared → Prop} (hk : KeyV s.heap k key) (hst : ∀ v ∈ stored, ∃ k', KeyV s.heap k' v) (h : Q false s) : wpAny (model prog w) A (tableMayTell key stored) Q E s := by
  unfold tableMayTell
  split
  · exact wpAny_pure h
  · refine wpAny_bind (hk.quiet ?_)
    rw [if_neg (by decide)]
    refine wpAny_bind ?_
    refine wpAny_forIn_list _ (fun rest r s' => s' = s ∧ r = (none, ()) ∧ ∀ v ∈ rest, ∃ k', KeyV s.heap k' v) _ ?_ ?_ _ _ ⟨rfl, rfl, hst⟩
    · rintro x rest r s' ⟨rfl, rfl, hr⟩
      obtain ⟨k', hb⟩ := hr x List.mem_cons_self
      refine wpAny_bind (hb.quiet ?_)
      rw [if_neg (by decide)]
      exact wpAny_pure ⟨rfl, rfl, fun v hv => hr v (List.mem_cons_of_mem _ hv)⟩
    · rintro r s' ⟨rfl, rfl, _⟩
      exact wpAny_pure h
/-- the place of a key among the entries, or none -/
theorem find_mixed {d : Addr} {o : Obj} {es : Array DictEntry} {ep : Nat} {ks : List NestedKey} {k : NestedKey} {key : Value} {Q : Option Nat → Shared → Prop} (hu : A.units + 8 < cLine) (hkey : KeyV s.heap k key) (ho : s.heap.get? d = some o) (hd : o.data = .dict es ep) (T : Ents w s.heap es ks)
    (hnone : (∀ j : Nat, ks[j]? ≠ some k) → Q none s) (hsome : ∀ j : Nat, ks[j]? = some k → Q (some j) s) : wpAny (model prog w) A (dictFind d key (k.hash w)) Q E s := by
  have hashOf : ∀ j : Nat, ks[j]? = some k → ((es[j]?.map (·.hash)) == some (k.hash w)) = true := by
    intro j hj
    have hl : j < es.size := by
      rw [T.len]
      exact (List.getElem?_eq_some_iff.mp hj).1
    obtain ⟨k', h1, _, h3⟩ := T.at_ j hl
    rw [h1] at hj
    cases hj
    rw [Array.getElem?_eq_getElem hl, Option.map_some, h3]
    simp
  have storedKey : ∀ v ∈ (placesWithHash es.size (fun i => es[i]?.map (·.hash)) (k.hash w)).filterMap (fun i => es[i]?.map (·.key)), ∃ k', KeyV s.heap k' v := by
    intro v hv
    obtain ⟨i, _, hi⟩ := List.mem_filterMap.mp hv
    cases hei : es[i]? with
    | none => rw [hei] at hi; cases hi
    | some e =>
      rw [hei] at hi
      obtain rfl : e.key = v := by simpa using hi
      obtain ⟨hl, rfl⟩ := Array.getElem?_eq_some_iff.mp hei
      obtain ⟨k', _, h2, _⟩ := T.at_ i hl
      exact ⟨k', h2⟩
  -- all scalars: the plain walk
  have plain : wpAny (model prog w) A (dictWalkPlain d key (k.hash w) es (placesWithHash es.size (fun i => es[i]?.map (·.hash)) (k.hash w))) Q E s := by
    refine wpAny_bind ?_
    refine wpAny_forIn_list _ (fun rest b s' => s' = s ∧ b = (none, ()) ∧ ∃ i, rest = (List.range' i (es.size - i)).filter (fun i => (es[i]?.map (·.hash)) == some (k.hash w)) ∧ i ≤ es.size ∧ ∀ j : Nat, j < i → ks[j]? ≠ some k) _ ?_ ?_ _ _
      ⟨rfl, rfl, 0, by rw [placesWithHash, List.range_eq_range', Nat.sub_zero], Nat.zero_le _, fun _ h => absurd h (Nat.not_lt_zero _)⟩
    · rintro x rest b s' ⟨rfl, rfl, i, hr, hi, hno⟩
      obtain ⟨hix, hxn, hpx, hskip, hrest⟩ := filter_range'_cons _ _ _ _ _ hr.symm
      have hlt : x < es.size := by omega
      obtain ⟨k', q1, q2, q3⟩ := T.at_ x hlt
      have below : ∀ j : Nat, j < x → ks[j]? ≠ some k := fun j hj e => by
        rcases Nat.lt_or_ge j i with h | h
        · exact hno j h e
        · have z := hskip j h hj
          rw [hashOf j e] at z
          cases z
      have hnext : ¬ k' = k → ∃ i, rest = (List.range' i (es.size - i)).filter (fun i => (es[i]?.map (·.hash)) == some (k.hash w)) ∧ i ≤ es.size ∧ ∀ j : Nat, j < i → ks[j]? ≠ some k := fun hne =>
        ⟨x + 1, by rw [hrest]; congr 2; omega, hlt, fun j hj e => by
          rcases Nat.lt_or_ge j x with h | h
          · exact below j h e
          · have : j = x := by omega
            subst this
            rw [q1] at e
            exact hne (Option.some.inj e)⟩
      simp only [Array.getElem?_eq_getElem hlt]
      by_cases hh : (es[x].hash == k.hash w) = true
      · rw [if_pos hh]
        refine wpAny_bind (wpAny_dictEpoch ho hd (wpAny_bind (KeyV.eqB hu q2 hkey (wpAny_bind (wpAny_dictEpoch ho hd ?_)))))
        show wpAny _ _ (if (ep != ep) = true then _ else _) _ E _
        rw [if_neg (by simp)]
        by_cases hkk : k' = k
        · rw [decide_eq_true hkk]
          exact wpAny_bind (wpAny_rule (wpAny_pure (wpAny_pure (hsome x (by rw [q1, hkk])))))
        · rw [decide_eq_false hkk]
          exact wpAny_bind (wpAny_rule (wpAny_pure ⟨rfl, rfl, hnext hkk⟩))
      · rw [if_neg hh]
        refine wpAny_pure ⟨rfl, rfl, hnext ?_⟩
        intro hkk
        rw [q3, hkk] at hh
        simp at hh
    · rintro b s' ⟨rfl, rfl, i, hr, hi, hno⟩
      refine wpAny_pure (hnone fun j e => ?_)
      rcases Nat.lt_or_ge j i with h | h
      · exact hno j h e
      · have hl : j < es.size := by
          rw [T.len]
          exact (List.getElem?_eq_some_iff.mp e).1
        have z := List.filter_eq_nil_iff.mp hr.symm j (List.mem_range'_1.mpr ⟨h, by omega⟩)
        exact z (hashOf j e)
  have changed : ¬ (es.any fun e => e.key == key && e.hash != k.hash w) = true := by
    rw [← Array.any_toList, List.any_eq_true]
    rintro ⟨e, hin, hc⟩
    obtain ⟨j, hj, rfl⟩ := Array.mem_iff_getElem.mp (Array.mem_toList_iff.mp hin)
    obtain ⟨k', _, h2, h3⟩ := T.at_ j hj
    simp only [Bool.and_eq_true, beq_iff_eq, bne_iff_ne, ne_eq] at hc
    rw [hc.1] at h2
    exact hc.2 (by rw [h3, h2.inj hkey])
  -- texts alone: by value
  have texts : ∀ (x : Str) (t : Tok), key = .str x t → (es.all fun e => isExactStrKey e.key) = true → wpAny (model prog w) A (foundByValue d key es x) Q E s := by
    intro x t ek hall
    have ktext : k = .text x := by
      rw [ek] at hkey
      exact hkey.inj ⟨.text x t, Nat.zero_le _⟩
    have strAt : ∀ (j : Nat) (hj : j < es.size), es[j].key.isStr x = true ↔ ks[j]? = some k := by
      intro j hj
      obtain ⟨k', h1, h2, _⟩ := T.at_ j hj
      have hs : isExactStrKey es[j].key = true := by
        rw [← Array.all_toList, List.all_eq_true] at hall
        exact hall _ (Array.mem_toList_iff.mpr (Array.getElem_mem hj))
      cases ekey : es[j].key with
      | str y u =>
        have ky : k' = .text y := by
          rw [ekey] at h2
          exact h2.inj ⟨.text y u, Nat.zero_le _⟩
        rw [h1, ky, ktext]
        constructor
        · intro z
          have : y = x := by simpa [Value.isStr] using z
          rw [this]
        · intro z
          injection z with z
          injection z with z
          simp [Value.isStr, z]
      | _ => rw [ekey] at hs; cases hs
    unfold foundByValue
    cases hf : es.findIdx? (fun e => e.key.isStr x) with
    | none =>
      refine wpAny_pure (hnone fun j hj => ?_)
      have hl : j < es.size := by
        rw [T.len]
        exact (List.getElem?_eq_some_iff.mp hj).1
      have z := Array.findIdx?_eq_none_iff.mp hf _ (Array.getElem_mem hl)
      rw [(strAt j hl).mpr hj] at z
      cases z
    | some i =>
      obtain ⟨hlt, hi, _⟩ := Array.findIdx?_eq_some_iff_getElem.mp hf
      have hki := (strAt i hlt).mp hi
      obtain ⟨k', h1, h2, _⟩ := T.at_ i hlt
      have hkk : k' = k := by
        rw [h1] at hki
        exact Option.some.inj hki
      simp only [Array.getElem?_eq_getElem hlt]
      refine wpAny_bind (wpAny_dictEpoch ho hd (wpAny_bind (KeyV.eqB hu h2 hkey (wpAny_bind (wpAny_dictEpoch ho hd ?_)))))
      show wpAny _ _ (if (ep != ep) = true then _ else _) _ E _
      rw [if_neg (by simp), decide_eq_true hkk]
      exact wpAny_bind (wpAny_rule (wpAny_pure (hsome i hki)))
  -- not all scalars: the walk in full, every stored key is asked
  have inv0 : (∀ j : Nat, j < 0 → ks[j]? ≠ some k) := fun _ h => absurd h (Nat.not_lt_zero _)
  unfold dictFind
  try with_reducible refine wpAny_holding ?_
  refine wpAny_bind (wpAny_dictEntries ho hd ?_)
  dsimp only
  by_cases hall : ((key :: (placesWithHash es.size (fun i => es[i]?.map (·.hash)) (k.hash w)).filterMap (fun i => es[i]?.map (·.key))).all carriedByValue) = true
  · rw [if_pos hall]
    split
    next x t =>
      split
      next hstrs => exact texts x t rfl hstrs
      next => exact plain
    next => exact plain
  · rw [if_neg hall, if_neg changed]
    have shape : key = .none ∨ (∃ b, key = .bool b) ∨ (∃ i t, key = .int i t) ∨ (∃ x t, key = .str x t) ∨ ∃ a, key = .ref a := by
      have z := hkey.1
      cases z <;> simp
    by_cases hone : (((placesWithHash es.size (fun i => es[i]?.map (·.hash)) (k.hash w)).filterMap (fun i => es[i]?.map (·.key))) == [key]) = true
    all_goals (first | rw [if_pos hone] | rw [if_neg hone])
    all_goals rcases shape with rfl | ⟨b, rfl⟩ | ⟨i, t, rfl⟩ | ⟨x, t, rfl⟩ | ⟨a, rfl⟩
    all_goals dsimp only
    all_goals by_cases hs : (es.all fun e => isExactStrKey e.key) = true
    all_goals (first | (rw [if_pos hs]; exact texts _ _ rfl hs) | rw [if_neg hs] | skip)
    all_goals (first | refine wpAny_bind (wpAny_pure ?_) | refine wpAny_bind (tells_not hkey storedKey ?_))
    all_goals rw [if_neg (by simp)]
    all_goals refine wpAny_bind ?_
    all_goals
      refine wpAny_forIn_list _
        (fun rest b s' => s' = s ∧ ∃ i hit, b = (none, hit) ∧ rest = (List.range' i (es.size - i)).filter (fun i => (es[i]?.map (·.hash)) == some (k.hash w)) ∧ i ≤ es.size ∧
          ((hit = none ∧ ∀ j : Nat, j < i → ks[j]? ≠ some k) ∨ ∃ j : Nat, hit = some j ∧ j < i ∧ ks[j]? = some k)) _ ?_ ?_ _ _
        ⟨rfl, 0, none, rfl, by rw [placesWithHash, List.range_eq_range', Nat.sub_zero], Nat.zero_le _, .inl ⟨rfl, inv0⟩⟩
    all_goals (first
      | (rintro x rest b s' ⟨rfl, i, hit, rfl, hr, hi, hH⟩
         obtain ⟨hix, hxn, hpx, hskip, hrest⟩ := filter_range'_cons _ _ _ _ _ hr.symm
         have hlt : x < es.size := by omega
         have hrest' : rest = (List.range' (x + 1) (es.size - (x + 1))).filter (fun i => (es[i]?.map (·.hash)) == some (k.hash w)) := by rw [hrest]; congr 2; omega
         obtain ⟨k', q1, q2, q3⟩ := T.at_ x hlt
         have hHx : (hit = none ∧ ∀ j : Nat, j < x → ks[j]? ≠ some k) ∨ ∃ j : Nat, hit = some j ∧ j < x ∧ ks[j]? = some k := by
           rcases hH with ⟨h0, hno⟩ | ⟨j, h1, hji, hj⟩
           · refine .inl ⟨h0, fun j hjx hj => ?_⟩
             rcases Nat.lt_or_ge j i with h | h
             · exact hno j h hj
             · have z := hskip j h hjx
               rw [hashOf j hj] at z
               cases z
           · exact .inr ⟨j, h1, by omega, hj⟩
         have hstay : ¬ k' = k → ((hit = none ∧ ∀ j : Nat, j < x + 1 → ks[j]? ≠ some k) ∨ ∃ j : Nat, hit = some j ∧ j < x + 1 ∧ ks[j]? = some k) := by
           intro hne
           rcases hHx with ⟨h0, hno⟩ | ⟨j, h1, hjx, hj⟩
           · refine .inl ⟨h0, fun j hjx hj => ?_⟩
             rcases Nat.lt_or_ge j x with h | h
             · exact hno j h hj
             · have e : j = x := by omega
               subst e
               rw [q1] at hj
               exact hne (Option.some.inj hj)
           · exact .inr ⟨j, h1, by omega, hj⟩
         rw [Array.getElem?_eq_getElem hlt]
         dsimp only
         by_cases hh : (es[x].hash == k.hash w) = true
         · rw [if_pos hh]
           refine wpAny_bind (wpAny_dictEpoch ho hd (wpAny_bind (KeyV.eqB hu q2 hkey (wpAny_bind (wpAny_dictEpoch ho hd ?_)))))
           show wpAny _ _ (if (ep != ep) = true then _ else _) _ E _
           rw [if_neg (by simp)]
           by_cases hkk : k' = k
           · rw [decide_eq_true hkk]
             subst hkk
             rcases hHx with ⟨rfl, _⟩ | ⟨j, _, hjx, hj⟩
             · first | rw [if_pos rfl] | skip
               simp only [Option.isSome_none, Bool.false_eq_true, if_false]
               first | refine wpAny_bind (wpAny_pure ?_) | skip
               refine wpAny_bind (wpAny_rule ?_)
               split
               · exact wpAny_pure (wpAny_pure (hsome x q1))
               · exact wpAny_pure ⟨rfl, x + 1, some x, rfl, hrest', hlt, .inr ⟨x, rfl, Nat.lt_succ_self x, q1⟩⟩
             · exact absurd (nodup_ix' T.nd hj q1) (by omega)
           · rw [decide_eq_false hkk]
             simp only [Bool.false_eq_true, if_false]
             refine wpAny_bind (wpAny_rule ?_)
             first | rw [if_neg (by simp)] | skip
             first
               | exact wpAny_pure ⟨rfl, x + 1, hit, rfl, hrest', hlt, hstay hkk⟩
               | exact wpAny_bind (wpAny_pure (wpAny_pure ⟨rfl, x + 1, hit, rfl, hrest', hlt, hstay hkk⟩))
         · rw [if_neg hh]
           refine wpAny_pure ⟨rfl, x + 1, hit, rfl, hrest', hlt, hstay ?_⟩
           intro hkk
           rw [q3, hkk] at hh
           simp at hh)
      | (rintro b s' ⟨rfl, i, hit, rfl, hr, hi, hH⟩
         rcases hH with ⟨rfl, hno⟩ | ⟨j, rfl, _, hj⟩
         · refine wpAny_pure (hnone fun j hj => ?_)
           rcases Nat.lt_or_ge j i with h | h
           · exact hno j h hj
           · have hjl : j < es.size := by
               rw [T.len]
               exact (List.getElem?_eq_some_iff.mp hj).1
             have z := List.filter_eq_nil_iff.mp hr.symm j (List.mem_range'_1.mpr ⟨h, by omega⟩)
             exact z (hashOf j hj)
         · exact wpAny_pure (hsome j hj)))
end
end Q

set_option Elab.async false
set_option maxRecDepth 100000
set_option linter.all false
set_option autoImplicit false
namespace Q
open PySem PySem.Spec PyProof.Rows L2 LamX

/-! ### lookups by data -/
def lookD (x : PyData) : List (PyData × W) → Option W
  | [] => none
  | (k, v) :: r => if keyD k = keyD x then some v else lookD x r
def putD (x : PyData) (v : W) : List (PyData × W) → List (PyData × W)
  | [] => [(x, v)]
  | (k, u) :: r => if keyD k = keyD x then (k, v) :: r else (k, u) :: putD x v r
def keyOk (x : PyData) : Prop := ∃ k, keyD x = some k ∧ k.depth ≤ 8
theorem putD_keys (x : PyData) (v : W) : ∀ kvs : List (PyData × W), (putD x v kvs).map (fun p => keyD p.1) = if keyD x ∈ kvs.map (fun p => keyD p.1) then kvs.map (fun p => keyD p.1) else kvs.map (fun p => keyD p.1) ++ [keyD x]
  | [] => by simp [putD]
  | (k, u) :: r => by
    have ih := putD_keys x v r
    unfold putD
    by_cases e : keyD k = keyD x
    · rw [if_pos e]
      simp [e]
    · rw [if_neg e]
      simp only [List.map_cons, ih, List.mem_cons]
      have e' : ¬ keyD x = keyD k := fun z => e z.symm
      by_cases h : keyD x ∈ r.map (fun p => keyD p.1)
      · rw [if_pos h, if_pos (.inr h)]
      · rw [if_neg h, if_neg (by simp [e', h])]
        rfl
theorem putD_nodup {x : PyData} {v : W} {kvs : List (PyData × W)} (n : (kvs.map fun p => keyD p.1).Nodup) : ((putD x v kvs).map fun p => keyD p.1).Nodup := by
  rw [putD_keys]
  split
  · exact n
  · rename_i h
    rw [List.nodup_append]
    refine ⟨n, by simp, fun a ha b hb => ?_⟩
    simp only [List.mem_singleton] at hb
    subst hb
    exact fun z => h (z ▸ ha)
theorem putD_length (x : PyData) (v : W) : ∀ kvs : List (PyData × W), (putD x v kvs).length ≤ kvs.length + 1
  | [] => Nat.le_refl _
  | (k, u) :: r => by
    unfold putD
    split
    · exact Nat.le_succ _
    · have := putD_length x v r
      simp only [List.length_cons]
      omega

section
variable {G : Gd} {X : Cx} {pins : List (Addr × Obj)} {σ : L2.St} {H : Hp} {s : Shared} {ι : Io}
mutual
theorem keyV_of (I : Inv X pins σ H s) (hK : X.K = G.K) : ∀ (d : PyData) (v : V) (u : Value) (k : NestedKey), RepD G.K H v d → RelV v u → keyD d = some k → NestedIs s.heap k u
  | .none, _, _, _, r, rv, e => by
    cases r
    cases e
    cases rv
    exact .none
  | .bool b, _, _, _, r, rv, e => by
    cases r
    cases e
    cases rv
    exact .bool rfl
  | .int i, _, _, _, r, rv, e => by
    cases r
    cases e
    obtain ⟨t, rfl⟩ := rv
    exact .int i t
  | .str x, _, _, _, r, rv, e => by
    cases r
    cases e
    obtain ⟨t, rfl⟩ := rv
    exact .text x t
  | .tuple ds, _, _, k, r, rv, e => by
    cases r with
    | @tup a xs _ h1 h2 =>
      cases rv
      obtain ⟨its, rs, ⟨o, e1, e2, n, e3⟩, _⟩ := I.tuple (by rw [hK]; exact h1)
      cases hk : keyDs ds with
      | none => simp [keyD, hk] at e
      | some ks =>
        simp [keyD, hk] at e
        subst e
        exact .tup e1 e2 e3 (by simpa using keyVs_of I hK ds xs its ks h2 rs hk)
  | .list _, _, _, _, _, _, e => by simp [keyD] at e
  | .dict _, _, _, _, _, _, e => by simp [keyD] at e
theorem keyVs_of (I : Inv X pins σ H s) (hK : X.K = G.K) : ∀ (ds : List PyData) (vs : List V) (us : List Value) (ks : List NestedKey), RepDs G.K H vs ds → Vals vs us → keyDs ds = some ks → NestedAll s.heap ks us
  | [], _, _, _, r, rv, e => by
    cases r
    cases rv
    cases e
    exact .nil
  | d :: ds, _, _, ks, r, rv, e => by
    cases r with
    | cons r1 r2 =>
      cases rv with
      | cons v1 v2 =>
        cases h1 : keyD d with
        | none => simp [keyDs, h1] at e
        | some k =>
          cases h2 : keyDs ds with
          | none => simp [keyDs, h1, h2] at e
          | some ks' =>
            simp [keyDs, h1, h2] at e
            subst e
            exact .cons (keyV_of I hK d _ _ k r1 v1 h1) (keyVs_of I hK ds _ _ ks' r2 v2 h2)
end
/-- the keys of the pairs -/
def keysOf (kvs : List (PyData × W)) : List NestedKey := kvs.filterMap fun p => keyD p.1
theorem keysOf_cons {p : PyData × W} {kvs : List (PyData × W)} {k : NestedKey} (h : keyD p.1 = some k) : keysOf (p :: kvs) = k :: keysOf kvs := by
  unfold keysOf
  rw [List.filterMap_cons, h]
theorem keysOf_map : ∀ {kvs : List (PyData × W)} {rs : List DictEntry}, Paired (RepKV G ι H) kvs rs → (kvs.map fun p => keyD p.1) = (keysOf kvs).map some
  | _, _, .nil => rfl
  | _, _, .cons r t => by
    obtain ⟨k, _, _, h, _⟩ := r
    rw [keysOf_cons h, List.map_cons, List.map_cons, h, keysOf_map t]
theorem nodup_of_map {α β : Type} (f : α → β) : ∀ {l : List α}, (l.map f).Nodup → l.Nodup
  | [], _ => List.nodup_nil
  | a :: l, h => by
    rw [List.map_cons, List.nodup_cons] at h
    exact List.nodup_cons.mpr ⟨fun z => h.1 (List.mem_map_of_mem z), nodup_of_map f h.2⟩
theorem ents_of (I : Inv X pins σ H s) (hK : X.K = G.K) (hw : X.w = G.w) {kvs : List (PyData × W)} {rs : List DictEntry} (p : Paired (RepKV G ι H) kvs rs) (n : (kvs.map fun p => keyD p.1).Nodup) : Ents X.w s.heap rs.toArray (keysOf kvs) := by
  have len : ∀ {kvs : List (PyData × W)} {rs : List DictEntry}, Paired (RepKV G ι H) kvs rs → rs.length = (keysOf kvs).length := by
    intro kvs rs p
    induction p with
    | nil => rfl
    | cons r _ ih =>
      obtain ⟨k, _, _, h, _⟩ := r
      rw [keysOf_cons h, List.length_cons, List.length_cons, ih]
  have get : ∀ {kvs : List (PyData × W)} {rs : List DictEntry}, Paired (RepKV G ι H) kvs rs → ∀ (j : Nat) (hj : j < rs.length), ∃ k, (keysOf kvs)[j]? = some k ∧ KeyV s.heap k rs[j].key ∧ rs[j].hash = k.hash X.w := by
    intro kvs rs p
    induction p with
    | nil => intro j hj; exact absurd hj (Nat.not_lt_zero _)
    | cons r _ ih =>
      obtain ⟨k, kv, vv, h1, h2, h3, h4, h5, _⟩ := r
      rw [keysOf_cons h1]
      intro j hj
      cases j with
      | zero => exact ⟨k, rfl, ⟨keyV_of I hK _ _ _ _ h4 h5 h1, h2⟩, by rw [hw]; exact h3⟩
      | succ j => exact ih j (by simpa using hj)
  refine ⟨by simpa using len p, fun j hj => by simpa using get p j (by simpa using hj), ?_⟩
  rw [keysOf_map p] at n
  exact nodup_of_map some n
theorem lookD_find {x : PyData} {k : NestedKey} (hx : keyD x = some k) : ∀ {kvs : List (PyData × W)} {rs : List DictEntry}, Paired (RepKV G ι H) kvs rs →
    ((∀ j : Nat, (keysOf kvs)[j]? ≠ some k) → lookD x kvs = none) ∧ ∀ j : Nat, (keysOf kvs)[j]? = some k → (keysOf kvs).Nodup → ∃ (v : W) (r : DictEntry) (vv : V), lookD x kvs = some v ∧ rs[j]? = some r ∧ RepW G.bare ι H v vv ∧ RelV vv r.val
  | _, _, .nil => ⟨fun _ => rfl, fun j h _ => by simp [keysOf] at h⟩
  | (q, v) :: kvs, r :: rs, .cons p t => by
    obtain ⟨k', kv, vv, h1, h2, h3, h4, h5, h6, h7⟩ := p
    dsimp only at h1 h4 h6
    obtain ⟨i1, i2⟩ := lookD_find hx t
    have ek : keysOf ((q, v) :: kvs) = k' :: keysOf kvs := keysOf_cons h1
    rw [ek]
    refine ⟨fun hno => ?_, fun j hj nd => ?_⟩
    · unfold lookD
      rw [h1, hx, if_neg (fun z => hno 0 (by rw [← Option.some.inj z]; rfl))]
      exact i1 fun j => hno (j + 1)
    · unfold lookD
      rw [h1, hx]
      cases j with
      | zero =>
        have e : k' = k := by simpa using hj
        rw [if_pos (by rw [e])]
        exact ⟨v, r, vv, rfl, rfl, h6, h7⟩
      | succ j =>
        have hj' : (keysOf kvs)[j]? = some k := by simpa using hj
        have ne : k' ≠ k := fun z => (List.nodup_cons.mp nd).1 (z ▸ List.mem_of_getElem? hj')
        rw [if_neg (fun z => ne (Option.some.inj z))]
        obtain ⟨v', r', vv', e1, e2, e3⟩ := i2 j hj' (List.nodup_cons.mp nd).2
        exact ⟨v', r', vv', e1, e2, e3⟩
/-- the object of a dict -/
theorem dx_obj (I : Inv X pins σ H s) {a : Addr} {rs : List DictEntry} (h : H a = some (DX a rs)) : ∃ o ep, s.heap.get? a = some o ∧ o.ExactDict ∧ o.data = .dict rs.toArray ep := by
  obtain ⟨p, _, _⟩ := I.hok a _ h
  exact p
variable {A : Around} {E : Value → Shared → Prop}
theorem dx_get {a : Addr} {kvs : List (PyData × W)} {x : PyData} {xv : V} {u : Value} {Q : Option Value → Shared → Prop} (I : Inv X pins σ H s) (hK : X.K = G.K) (hw : X.w = G.w) (hu : A.units + 8 < cLine) (ro : RepO G ι H a (.dct kvs)) (rx : RepD G.K H xv x) (ru : RelV xv u) (hx : keyOk x)
    (h0 : lookD x kvs = none → ∀ tk, Q none { s with toks := tk }) (h1 : ∀ v vv uv, lookD x kvs = some v → RepW G.bare ι H v vv → RelV vv uv → ∀ tk, Q (some uv) { s with toks := tk }) : wpAny (model X.prog X.w) A (dictGet a u) Q E s := by
  obtain ⟨k, hk, hd⟩ := hx
  obtain ⟨hs, hl, hn, rs, hH, p⟩ := ro
  obtain ⟨o, ep, ho, hc, hdat⟩ := dx_obj I hH
  have T := ents_of I hK hw p hn
  have key : KeyV s.heap k u := ⟨keyV_of I hK _ _ _ _ rx ru hk, hd⟩
  obtain ⟨f1, f2⟩ := lookD_find hk p
  unfold dictGet
  try with_reducible refine wpAny_holding ?_
  refine wpAny_bind (pyHash_key k u A s _ key.1 (by omega) ?_)
  refine wpAny_bind (find_mixed (s := { s with toks := s.toks + k.draws }) hu key ho hdat T (fun hno => ?_) fun j hj => ?_)
  · exact wpAny_pure (h0 (f1 hno) _)
  · obtain ⟨v, r, vv, e1, e2, e3, e4⟩ := f2 j hj T.nd
    refine wpAny_bind (wpAny_dictEntries (s := { s with toks := s.toks + k.draws }) ho hdat ?_)
    have e2' : rs.toArray[j]? = some r := by simpa using e2
    rw [e2']
    exact wpAny_pure (h1 v vv r.val e1 e3 e4 _)
theorem dx_typeIs (I : Inv X pins σ H s) {a : Addr} {rs : List DictEntry} (h : H a = some (DX a rs)) : s.TypeIs (.ref a) "dict" := by
  obtain ⟨o, ep, ho, hc, _⟩ := dx_obj I h
  exact ⟨o, ho, hc.1⟩
/-- k in d -/
theorem dx_in {a : Addr} {kvs : List (PyData × W)} {x : PyData} {xv : V} {u : Value} {Q : Value → Shared → Prop} (I : Inv X pins σ H s) (hK : X.K = G.K) (hw : X.w = G.w) (hu : A.units + 9 < cLine) (ro : RepO G ι H a (.dct kvs)) (rx : RepD G.K H xv x) (ru : RelV xv u) (hx : keyOk x)
    (h : ∀ tk, Q (.bool (lookD x kvs).isSome) { s with toks := tk }) : wpAny (model X.prog X.w) A (compareOp .In u (.ref a)) Q E s := by
  have hs := ro.1
  have hT : s.TypeIs (.ref a) "dict" := by
    obtain ⟨_, _, _, rs, hH, _⟩ := id ro
    exact dx_typeIs I hH
  show wpAny _ _ (do return .bool (← contains (.ref a) u)) Q E s
  refine wpAny_bind ?_
  unfold contains
  try with_reducible refine wpAny_holding ?_
  refine wpAny_bind (wpAny_specialOf hT slot_dict_contains.lookup ?_)
  show wpAny _ _ (if (some (Value.builtin "dict.__contains__") == some Value.none) = true then _ else _) _ E s
  rw [if_neg (by rw [beq_builtin_none]; exact Bool.false_ne_true)]
  refine wpAny_bind (wpAny_callSpecialUnlessNone?_slot (name := Str.ofString "__contains__") hT slot_dict_contains (wpAny_call_entry slot_dict_contains hT entry_dict_contains ?_ (args_dict_contains _ _)))
  show wpAny _ _ (dictGet a u >>= _) _ _ s
  refine wpAny_bind (dx_get I hK hw (show A.in1.units + 8 < cLine by rw [Around.in1_units]; omega) ro rx ru hx (fun e tk => ?_) fun v vv uv e _ _ tk => ?_)
  · rw [e] at h
    show wpAny _ _ (Builtin.Dict.pendingKey? a u >>= _) _ _ _
    exact wpAny_bind (wpAny_pendingKey_other hs (wpAny_pure ⟨_, rfl, wpAny_truthy_bool (wpAny_pure (h tk))⟩))
  · rw [e] at h
    show wpAny _ _ (ret (.bool true)) _ _ _
    exact wpAny_pure ⟨_, rfl, wpAny_truthy_bool (wpAny_pure (h tk))⟩
/-- d[k], there -/
theorem dx_item {a : Addr} {kvs : List (PyData × W)} {x : PyData} {xv : V} {u : Value} {v : W} {Q : Value → Shared → Prop} (I : Inv X pins σ H s) (hK : X.K = G.K) (hw : X.w = G.w) (hu : A.units + 9 < cLine) (ro : RepO G ι H a (.dct kvs)) (rx : RepD G.K H xv x) (ru : RelV xv u) (hx : keyOk x) (hv : lookD x kvs = some v)
    (h : ∀ vv uv, RepW G.bare ι H v vv → RelV vv uv → ∀ tk, Q uv { s with toks := tk }) : wpAny (model X.prog X.w) A (getItem (.ref a) u) Q E s := by
  have hT : s.TypeIs (.ref a) "dict" := by
    obtain ⟨_, _, _, rs, hH, _⟩ := id ro
    exact dx_typeIs I hH
  unfold getItem
  try with_reducible refine wpAny_holding ?_
  refine wpAny_bind (wpAny_sequenceKey hT (by decide) ?_)
  refine wpAny_bind (wpAny_callSpecial?_slot (name := Str.ofString "__getitem__") hT slot_dict_getitem (wpAny_call_entry slot_dict_getitem hT entry_dict_getitem ?_ (args_dict_getitem _ _)))
  show wpAny _ _ (dictGet a u >>= _) _ _ s
  refine wpAny_bind (dx_get I hK hw (show A.in1.units + 8 < cLine by rw [Around.in1_units]; omega) ro rx ru hx (fun e tk => ?_) fun v' vv uv e r1 r2 tk => ?_)
  · rw [hv] at e
    cases e
  · rw [hv] at e
    cases e
    exact wpAny_pure ⟨uv, rfl, wpAny_pure (h vv uv r1 r2 tk)⟩
theorem put_new {x : PyData} {k : NestedKey} {v : W} {e : DictEntry} (hx : keyD x = some k) (re : RepKV G ι H (x, v) e) : ∀ {kvs : List (PyData × W)} {rs : List DictEntry}, Paired (RepKV G ι H) kvs rs → (∀ j : Nat, (keysOf kvs)[j]? ≠ some k) → Paired (RepKV G ι H) (putD x v kvs) (rs ++ [e])
  | _, _, .nil, _ => .cons re .nil
  | (q, w0) :: kvs, r :: rs, .cons p t, hno => by
    obtain ⟨k', kv, vv, h1, h2⟩ := id p
    dsimp only at h1
    rw [keysOf_cons h1] at hno
    unfold putD
    rw [h1, hx, if_neg (fun z => hno 0 (by rw [← Option.some.inj z]; rfl))]
    exact .cons p (put_new hx re t fun j => hno (j + 1))
theorem put_old {x : PyData} {k : NestedKey} {v : W} {vv uv : Value} {vw : V} (hx : keyD x = some k) (rv : RepW G.bare ι H v vw) (ru : RelV vw uv) : ∀ {kvs : List (PyData × W)} {rs : List DictEntry}, Paired (RepKV G ι H) kvs rs → (keysOf kvs).Nodup → ∀ j : Nat, (keysOf kvs)[j]? = some k → Paired (RepKV G ι H) (putD x v kvs) (rs.modify j fun e => { e with val := uv })
  | _, _, .nil, _, j, h => by simp [keysOf] at h
  | (q, w0) :: kvs, r :: rs, .cons p t, nd, j, hj => by
    obtain ⟨k', kv, vv', h1, h2, h3, h4, h5, _⟩ := id p
    dsimp only at h1
    rw [keysOf_cons h1] at hj nd
    unfold putD
    rw [h1, hx]
    cases j with
    | zero =>
      have e : k' = k := by simpa using hj
      rw [if_pos (by rw [e])]
      rw [List.modify_zero_cons]
      exact .cons ⟨k', kv, vw, h1, h2, h3, h4, h5, rv, ru⟩ t
    | succ j =>
      have hj' : (keysOf kvs)[j]? = some k := by simpa using hj
      have ne : k' ≠ k := fun z => (List.nodup_cons.mp nd).1 (z ▸ List.mem_of_getElem? hj')
      rw [if_neg (fun z => ne (Option.some.inj z)), List.modify_succ_cons]
      exact .cons p (put_old (vv := vv) hx rv ru t (List.nodup_cons.mp nd).2 j hj')
/-- d[k] = v -/
theorem dx_set {a : Addr} {kvs : List (PyData × W)} {x : PyData} {v : W} {xv vw : V} {u uv : Value} {Q : Unit → Shared → Prop} (I : Inv X pins σ H s) (hK : X.K = G.K) (hw : X.w = G.w) (hu : A.units + 9 < cLine) (ro : RepO G ι H a (.dct kvs)) (hl : kvs.length < sizeLine) (rx : RepD G.K H xv x) (ru : RelV xv u) (hx : keyOk x)
    (rv : RepW G.bare ι H v vw) (rvu : RelV vw uv) (h : ∀ (rs' : List DictEntry) (s' : Shared), Inv X pins σ (upd H a (DX a rs')) s' → Paired (RepKV G ι H) (putD x v kvs) rs' → Q () s') : wpAny (model X.prog X.w) A (setItem (.ref a) u uv) Q E s := by
  obtain ⟨k, hk, hd⟩ := hx
  obtain ⟨hs, hz, hn, rs, hH, p⟩ := ro
  have hT := dx_typeIs I hH
  obtain ⟨o, ep, ho, hc, hdat⟩ := dx_obj I hH
  have T := ents_of I hK hw p hn
  have key : KeyV s.heap k u := ⟨keyV_of I hK _ _ _ _ rx ru hk, hd⟩
  have hu' : A.in1.units + 8 < cLine := by rw [Around.in1_units]; omega
  have hsz : rs.length = kvs.length := p.length.symm
  have fin : ∀ (h' : Heap) (tk : Nat) (rs' : List DictEntry), (∃ o ep, h'.get? a = some o ∧ o.ExactDict ∧ o.data = .dict rs'.toArray ep) → Heap.SameBut a s.heap h' → Inv X pins σ (upd H a (DX a rs')) { s with heap := h', toks := tk } := fun h' tk rs' hob hs => by
    obtain ⟨o', ep', e1, e2, e3⟩ := hob
    refine d_write I (by rw [hH]; exact True.intro) hs ⟨o', e1⟩ ⟨⟨o', ep', e1, e2, e3⟩, ⟨o', e1⟩, ?_⟩
    rintro h1 h2 ⟨o1, ep1, f1, f2, f3⟩ st
    exact ⟨o1, ep1, st _ f1, f2, f3⟩
  unfold setItem
  try with_reducible refine wpAny_holding ?_
  refine wpAny_bind (wpAny_sequenceKey hT (by decide) ?_)
  refine wpAny_bind (wpAny_callSpecial?_slot (name := Str.ofString "__setitem__") hT slot_dict_setitem (wpAny_call_entry slot_dict_setitem hT entry_dict_setitem ?_ (args_dict_setitem _ _ _)))
  show wpAny _ _ (Builtin.Dict.notOrdered "__setitem__" ⟨[.ref a, u, uv], []⟩ >>= _) _ _ s
  refine wpAny_bind (wpAny_notOrdered_dict hT ?_)
  show wpAny _ _ (dictSet a u uv >>= _) _ _ s
  refine wpAny_bind ?_
  unfold dictSet
  try with_reducible refine wpAny_holding ?_
  refine wpAny_bind (pyHash_key k u A.in1 s _ key.1 (by omega) ?_)
  unfold dictSetHashed
  try with_reducible refine wpAny_holding ?_
  refine wpAny_bind (find_mixed (s := { s with toks := s.toks + k.draws }) hu' key ho hdat T (fun hno => ?_) fun j hj => ?_)
  · refine wpAny_bind (wpAny_rule (wpAny_updateDictKeys (hz := by rw [List.size_toArray]; omega) (s := { s with toks := s.toks + k.draws }) ho hdat ?_))
    refine wpAny_pure ⟨.none, rfl, wpAny_pure (h (rs ++ [⟨k.hash X.w, u, uv⟩]) _ (fin _ _ _ ⟨_, ep + 1, Heap.get?_update_self _ ho (Obj.isFreed_of_dict (Obj.data_mapDictKeys hdat _)), hc.mapDictKeys _, ?_⟩ (Heap.SameBut.update ..)) (put_new hk ⟨k, xv, vw, hk, hd, by rw [hw], rx, ru, rv, rvu⟩ p hno))⟩
    rw [Obj.data_mapDictKeys hdat]
    simp
  · refine wpAny_bind (wpAny_rule (wpAny_bind (wpAny_updateDict (s := { s with toks := s.toks + k.draws }) ho hdat (wpAny_point ?_))))
    refine wpAny_pure ⟨.none, rfl, wpAny_pure (h (rs.modify j fun e => { e with val := uv }) _ (fin _ _ _ ⟨_, ep, Heap.get?_update_self _ ho (Obj.isFreed_of_dict (Obj.data_mapDict hdat _)), hc.mapDict _, ?_⟩ (Heap.SameBut.update ..)) (put_old (vv := uv) hk rv rvu p T.nd j hj))⟩
    rw [Obj.data_mapDict hdat]
    simp
end
end Q

set_option Elab.async false
set_option maxRecDepth 100000
set_option linter.all false
set_option autoImplicit false
/-! QM: operators by the values of the evaluator. -/
namespace Q
open PySem PySem.Spec PyProof.Rows L2 LamX

/-! ### a value as data: a list of the heap is read off -/
def toD (h : AH) : W → Option PyData
  | .d x => some x
  | .ref i => match h.f i with
    | some (.lst ws) => (allD ws).map .list
    | _ => none
  | _ => none
def okD (x : PyData) : Bool := x.plain && decide (x.depth ≤ 64)
def lenL (h : AH) : W → Option Nat
  | .d (.list ds) => some ds.length
  | .ref i => match h.f i with
    | some (.lst ws) => some ws.length
    | _ => none
  | .clos ks => some ks.length
  | _ => none
/-- a list that the abstract heap tells of, or one that is frozen -/
def Sq2 (H : Hp) (a : Addr) (xs : List V) : Prop := H a = some (.lst xs) ∨ ∃ o, H a = some (.frz o (.lst xs))
theorem Sq2.sq {K : PySem.W.Frag} {H : Hp} {a : Addr} {xs : List V} (h : Sq2 H a xs) : SqL K H a xs := .inl h
theorem depthAll_mem {x : PyData} {xs : List PyData} (h : x ∈ xs) : x.depth ≤ PyData.depthAll xs := by
  induction xs with
  | nil => cases h
  | cons y ys ih =>
    simp only [PyData.depthAll]
    rcases List.mem_cons.mp h with e | e
    · subst e
      omega
    · have := ih e
      omega
mutual
theorem RepD.dpP {K : PySem.W.Frag} {H : Hp} : ∀ (d : PyData) (v : V), RepD K H v d → d.plain = true → Dp K H v d
  | .none, _, r, _ => by cases r; exact .non
  | .bool b, _, r, _ => by cases r; exact .bl b
  | .int i, _, r, _ => by cases r; exact .int i
  | .str x, _, r, _ => by cases r; exact .str x
  | .list ds, _, r, c => by
    cases r with
    | lst h1 h2 => exact .lst (.inl (.inr ⟨_, h1⟩)) (RepDs.dpP ds _ h2 (by simpa only [PyData.plain] using c))
  | .tuple ds, _, r, c => by
    cases r with
    | tup h1 h2 => exact .tup h1 (RepDs.dpP ds _ h2 (by simpa only [PyData.plain] using c))
  | .dict kvs, _, r, c => by simp [PyData.plain] at c
theorem RepDs.dpP {K : PySem.W.Frag} {H : Hp} : ∀ (ds : List PyData) (vs : List V), RepDs K H vs ds → PyData.plainAll ds = true → DpAll K H vs ds
  | [], _, r, _ => by cases r; exact .nil
  | d :: ds, _, r, c => by
    cases r with
    | cons h1 h2 =>
      simp only [PyData.plainAll, Bool.and_eq_true] at c
      exact .cons (RepD.dpP d _ h1 c.1) (RepDs.dpP ds _ h2 c.2)
end
section
variable {G : Gd} {X : Cx} {ι : Io} {h : AH} {H : Hp} {x y : W} {v u : V} {pins : List (Addr × Obj)} {σ : L2.St} {s : Shared}
theorem toD_list {ds : List PyData} (r : RlH G ι h H) (rv : RepW G ι H x v) (e : toD h x = some (.list ds)) : ∃ a vs, v = .ref a ∧ Sq2 H a vs ∧ RepDs G.K H vs ds := by
  cases x with
  | d z =>
    cases (Option.some.inj e)
    cases rv with
    | lst h1 h2 => exact ⟨_, _, rfl, .inr ⟨_, h1⟩, h2⟩
  | ref i =>
    simp only [toD] at e
    split at e
    · rename_i ws hi
      obtain ⟨a, e2, ev⟩ := rv
      obtain ⟨b, e3, vs, e4, rw4⟩ := r.ob i _ hi
      rw [e2] at e3
      cases e3
      cases hd : allD ws with
      | none => rw [hd] at e; cases e
      | some ds' =>
        rw [hd] at e
        cases e
        exact ⟨a, vs, ev, .inl e4, allD_rep hd rw4.up⟩
    · cases e
  | exc _ _ => cases e
  | clo _ => cases e
  | clos _ => cases e
theorem toD_data {d : PyData} (rv : RepW G ι H x v) (e : toD h x = some d) (n : ∀ ds, d ≠ .list ds) : RepD G.K H v d := by
  cases x with
  | d z =>
    cases (Option.some.inj e)
    exact rv
  | ref i =>
    simp only [toD] at e
    split at e
    · rename_i ws hi
      cases hd : allD ws with
      | none => rw [hd] at e; cases e
      | some ds' =>
        rw [hd] at e
        exact absurd (Option.some.inj e).symm (n ds')
    · cases e
  | exc _ _ => cases e
  | clo _ => cases e
  | clos _ => cases e
theorem toD_dp {d : PyData} (r : RlH G ι h H) (rv : RepW G ι H x v) (e : toD h x = some d) (p : d.plain = true) : Dp G.K H v d := by
  cases d with
  | list ds =>
    obtain ⟨a, vs, rfl, h1, h2⟩ := toD_list r rv e
    exact .lst h1.sq (RepDs.dpP ds vs h2 (by simpa only [PyData.plain] using p))
  | _ => exact RepD.dpP _ _ (toD_data rv e fun ds z => by cases z) p
theorem lenL_of {n : Nat} (r : RlH G ι h H) (rv : RepW G ι H x v) (e : lenL h x = some n) : ∃ a vs, v = .ref a ∧ Sq2 H a vs ∧ vs.length = n := by
  cases x with
  | d z =>
    cases z with
    | list ds =>
      cases (Option.some.inj e)
      cases rv with
      | lst h1 h2 => exact ⟨_, _, rfl, .inr ⟨_, h1⟩, h2.length⟩
    | _ => cases e
  | ref i =>
    simp only [lenL] at e
    split at e
    · rename_i ws hi
      cases (Option.some.inj e)
      obtain ⟨a, e2, ev⟩ := rv
      obtain ⟨b, e3, vs, e4, rw4⟩ := r.ob i _ hi
      rw [e2] at e3
      cases e3
      exact ⟨a, vs, ev, .inl e4, rw4.length.symm⟩
    · cases e
  | clos ks =>
    cases (Option.some.inj e)
    obtain ⟨a, o, vs, e1, e2, e3⟩ := rv
    exact ⟨a, vs, e1, .inr ⟨o, e2⟩, e3.length.symm⟩
  | exc _ _ => cases e
  | clo _ => cases e
theorem okD_iff {d : PyData} (h : okD d = true) : d.plain = true ∧ d.depth ≤ 64 := by
  unfold okD at h
  simpa using h
theorem Sq2.obj {a : Addr} {xs : List V} (I : Inv X pins σ H s) (q : Sq2 H a xs) : xs.length ≤ sizeLine ∧ ∃ (its : List Value) (n : Nat), Vals xs its ∧ s.heap.get? a = some { cls := .type "list", data := .seq its.toArray n } := by
  rcases q with q | ⟨o, q⟩
  · exact I.hok a _ q
  · exact (I.hok a _ q).2
end

/-! ### == and != -/
def eqLen (x y : W) (h : AH) : Option Bool := match lenL h x, lenL h y with
  | some n, some m => if n = m then none else some false
  | _, _ => none
def eqB (x y : W) (h : AH) : Option Bool := match toD h x, toD h y with
  | some a, some b => if okD a && okD b then some (a.eqv b) else eqLen x y h
  | _, _ => eqLen x y h
def bO (b : Bool) : W := .d (.bool b)
def eqO : Op2 := fun x y h => (eqB x y h).map bO
def neO : Op2 := fun x y h => (eqB x y h).map fun b => bO (!b)
/-- two values that can be told apart or not -/
def EqA (K : PySem.W.Frag) (x y : V) (H : Hp) (b : Bool) : Prop :=
  (∃ d e, Dp K H x d ∧ Dp K H y e ∧ okD d = true ∧ okD e = true ∧ b = PyData.eqv d e) ∨ ∃ a c xs ys, x = .ref a ∧ y = .ref c ∧ SqL K H a xs ∧ SqL K H c ys ∧ xs.length ≠ ys.length ∧ b = false
def rEqA (K : PySem.W.Frag) (f : Bool → Bool) : R2 := fun x y H Q => ∃ b, EqA K x y H b ∧ Q (.bl (f b)) H
section
variable {G : Gd} {X : Cx}
theorem op_eqA (hu : X.A.units + 64 < cLine) : OpR X (compareOp .Eq) (rEqA X.K id) := by
  intro pins s σ H x y v u Q I rx ry h
  obtain ⟨b, ⟨d, e, hd, he, sd, se, rfl⟩ | ⟨a, c, xs, ys, rfl, rfl, ha, hc, hn, rfl⟩, q⟩ := h
  · obtain ⟨as, r1⟩ := Dp.reads I d x v hd rx
    obtain ⟨bs, r2⟩ := Dp.reads I e y u he ry
    exact SeqAt.eq_plain r1 r2 (okD_iff sd).1 (okD_iff se).1 (by have := (okD_iff sd).2; omega) ⟨.bl _, H, I, rfl, q⟩
  · cases rx
    cases ry
    obtain ⟨us, r1, p1, _⟩ := I.list ha
    obtain ⟨ws, r2, p2, _⟩ := I.list hc
    exact SeqAt.RcAt.lists_lengths p1.isList p2.isList (by rw [List.size_toArray, List.size_toArray, ← r1.length, ← r2.length]; simpa using hn) (by omega) X.prog X.w _ _ ⟨.bl _, H, I, rfl, q⟩
theorem op_neA (hu : X.A.units + 64 < cLine) : OpR X (compareOp .NotEq) (rEqA X.K not) := by
  intro pins s σ H x y v u Q I rx ry h
  obtain ⟨b, ⟨d, e, hd, he, sd, se, rfl⟩ | ⟨a, c, xs, ys, rfl, rfl, ha, hc, hn, rfl⟩, q⟩ := h
  · obtain ⟨as, r1⟩ := Dp.reads I d x v hd rx
    obtain ⟨bs, r2⟩ := Dp.reads I e y u he ry
    exact SeqAt.ne_plain r1 r2 (okD_iff sd).1 (okD_iff se).1 (by have := (okD_iff sd).2; omega) ⟨.bl _, H, I, rfl, q⟩
  · cases rx
    cases ry
    obtain ⟨us, r1, p1, _⟩ := I.list ha
    obtain ⟨ws, r2, p2, _⟩ := I.list hc
    exact SeqAt.RcNeAt.lists_lengths p1.isList p2.isList (by rw [List.size_toArray, List.size_toArray, ← r1.length, ← r2.length]; simpa using hn) (by omega) X.prog X.w _ _ ⟨.bl _, H, I, rfl, q⟩
theorem eqB_rel {ι : Io} {h : AH} {H : Hp} {x y : W} {v u : V} {b : Bool} (r : RlH G ι h H) (rx : RepW G ι H x v) (ry : RepW G ι H y u) (e : eqB x y h = some b) : EqA G.K v u H b := by
  have len : eqLen x y h = some b → EqA G.K v u H b := fun e => by
    unfold eqLen at e
    split at e
    · rename_i n m hn hm
      split at e
      · cases e
      · rename_i ne
        cases e
        obtain ⟨a, xs, rfl, q1, l1⟩ := lenL_of r rx hn
        obtain ⟨c, ys, rfl, q2, l2⟩ := lenL_of r ry hm
        exact .inr ⟨a, c, xs, ys, rfl, rfl, q1.sq, q2.sq, by rw [l1, l2]; exact ne, rfl⟩
    · cases e
  unfold eqB at e
  split at e
  · rename_i a b' ha hb
    split at e
    · rename_i ok
      cases e
      rw [Bool.and_eq_true] at ok
      exact .inl ⟨a, b', toD_dp r rx ha (okD_iff ok.1).1, toD_dp r ry hb (okD_iff ok.2).1, ok.1, ok.2, rfl⟩
    · exact len e
  · exact len e
theorem os_eq (hK : X.K = G.K) (hu : X.A.units + 64 < cLine) : OpS G X (compareOp .Eq) eqO := ⟨_, op_eqA hu, fun ι h H x y z u v Q r rx ry e k => by
  unfold eqO at e
  cases eb : eqB x y h with
  | none => rw [eb] at e; cases e
  | some b =>
    rw [eb] at e
    cases e
    exact ⟨b, by rw [hK]; exact eqB_rel r rx ry eb, okP.here k r (.bl b)⟩⟩
theorem os_ne (hK : X.K = G.K) (hu : X.A.units + 64 < cLine) : OpS G X (compareOp .NotEq) neO := ⟨_, op_neA hu, fun ι h H x y z u v Q r rx ry e k => by
  unfold neO at e
  cases eb : eqB x y h with
  | none => rw [eb] at e; cases e
  | some b =>
    rw [eb] at e
    cases e
    exact ⟨b, by rw [hK]; exact eqB_rel r rx ry eb, okP.here k r (.bl _)⟩⟩
/-! ### is -/
def isN (x : W) : Bool := match x with
  | .d .none => true
  | _ => false
def isO : Op2 := fun x y _ => match y with
  | .d .none => some (bO (isN x))
  | .d (.bool b) => match x with
    | .d (.bool a) => some (bO (decide (a = b)))
    | _ => none
  | _ => none
def isNotO : Op2 := fun x y _ => match y with
  | .d .none => some (bO (!isN x))
  | .d (.bool b) => match x with
    | .d (.bool a) => some (bO (!decide (a = b)))
    | _ => none
  | _ => none
theorem isN_rel {ι : Io} {H : Hp} {x : W} {v : V} (rx : RepW G ι H x v) : decide (v = .non) = isN x := by
  cases x with
  | d z =>
    cases z <;> cases rx <;> simp [isN]
  | ref i => obtain ⟨a, _, rfl⟩ := rx; simp [isN]
  | exc c fs => obtain ⟨a, C, o, vs, rfl, _⟩ := rx; simp [isN]
  | clo k => simp [isN, G.cl.non k ι H v rx]
  | clos ks => obtain ⟨a, o, vs, rfl, _⟩ := rx; simp [isN]
theorem os_is : OpS G X (compareOp .Is) isO := ⟨_, OpR.or op_isN op_is_bl, fun ι h H x y z u v Q r rx ry e k => by
  unfold isO at e
  split at e
  · cases e
    cases ry
    exact .inl ⟨rfl, by rw [isN_rel rx]; exact okP.here k r (.bl _)⟩
  · cases ry
    split at e
    · cases e
      cases rx
      exact .inr ⟨_, _, rfl, rfl, okP.here k r (.bl _)⟩
    · cases e
  · cases e⟩
theorem os_isNot : OpS G X (compareOp .IsNot) isNotO := ⟨_, OpR.or op_notN op_isnot_bl, fun ι h H x y z u v Q r rx ry e k => by
  unfold isNotO at e
  split at e
  · cases e
    cases ry
    exact .inl ⟨rfl, by rw [isN_rel rx]; exact okP.here k r (.bl _)⟩
  · cases ry
    split at e
    · cases e
      cases rx
      exact .inr ⟨_, _, rfl, rfl, okP.here k r (.bl _)⟩
    · cases e
  · cases e⟩
/-! ### ints -/
/-- two data that have an order -/
def okC (a b : PyData) : Bool := okD a && okD b && PySem.W.alike a b && (match a with | .none => false | _ => true)
/-- by their ints; otherwise by the order of data -/
def cmpI (g : Int → Int → Bool) (gd : PyData → PyData → Bool) : Op2 := fun x y h => match x, y with
  | .d (.int i), .d (.int j) => some (bO (g i j))
  | x, y => match toD h x, toD h y with
    | some a, some b => if okC a b = true then some (bO (gd a b)) else none
    | _, _ => none
def rCmpD (K : PySem.W.Frag) (gd : PyData → PyData → Bool) : R2 := fun x y H Q => ∃ d e, Dp K H x d ∧ Dp K H y e ∧ okC d e = true ∧ Q (.bl (gd d e)) H
theorem okC_iff {a b : PyData} (h : okC a b = true) : okD a = true ∧ okD b = true ∧ PySem.W.alike a b = true ∧ a ≠ .none := by
  unfold okC at h
  simp only [Bool.and_eq_true] at h
  refine ⟨h.1.1.1, h.1.1.2, h.1.2, fun z => ?_⟩
  subst z
  simp at h
theorem op_ltD (hu : X.A.units + 64 < cLine) : OpR X (compareOp .Lt) (rCmpD X.K fun a b => PySem.W.dataLt a b) := by
  intro pins s σ H x y v u Q I rx ry ⟨d, e, hd, he, ok, q⟩
  obtain ⟨as, r1⟩ := Dp.reads I d x v hd rx
  obtain ⟨bs, r2⟩ := Dp.reads I e y u he ry
  obtain ⟨o1, o2, o3, o4⟩ := okC_iff ok
  exact PySem.W.lt_data r1 r2 o3 o4 (by have := (okD_iff o1).2; omega) ⟨.bl _, H, I, rfl, q⟩
theorem op_leD (hu : X.A.units + 64 < cLine) : OpR X (compareOp .LtE) (rCmpD X.K fun a b => !PySem.W.dataLt b a) := by
  intro pins s σ H x y v u Q I rx ry ⟨d, e, hd, he, ok, q⟩
  obtain ⟨as, r1⟩ := Dp.reads I d x v hd rx
  obtain ⟨bs, r2⟩ := Dp.reads I e y u he ry
  obtain ⟨o1, o2, o3, o4⟩ := okC_iff ok
  exact PySem.W.le_data r1 r2 o3 o4 (by have := (okD_iff o1).2; omega) ⟨.bl _, H, I, rfl, q⟩
theorem op_gtD (hu : X.A.units + 64 < cLine) : OpR X (compareOp .Gt) (rCmpD X.K fun a b => PySem.W.dataLt b a) := by
  intro pins s σ H x y v u Q I rx ry ⟨d, e, hd, he, ok, q⟩
  obtain ⟨as, r1⟩ := Dp.reads I d x v hd rx
  obtain ⟨bs, r2⟩ := Dp.reads I e y u he ry
  obtain ⟨o1, o2, o3, o4⟩ := okC_iff ok
  exact PySem.W.gt_data r1 r2 o3 o4 (by have := (okD_iff o1).2; omega) ⟨.bl _, H, I, rfl, q⟩
theorem op_geD (hu : X.A.units + 64 < cLine) : OpR X (compareOp .GtE) (rCmpD X.K fun a b => !PySem.W.dataLt a b) := by
  intro pins s σ H x y v u Q I rx ry ⟨d, e, hd, he, ok, q⟩
  obtain ⟨as, r1⟩ := Dp.reads I d x v hd rx
  obtain ⟨bs, r2⟩ := Dp.reads I e y u he ry
  obtain ⟨o1, o2, o3, o4⟩ := okC_iff ok
  exact PySem.W.ge_data r1 r2 o3 o4 (by have := (okD_iff o1).2; omega) ⟨.bl _, H, I, rfl, q⟩
theorem os_cmpI {f : Value → Value → Sem Value} {g : Int → Int → Bool} {gd : PyData → PyData → Bool} (hK : X.K = G.K) (ho : OpR X f (rI0 fun i j => .bl (g i j))) (hd : OpR X f (rCmpD X.K gd)) : OpS G X f (cmpI g gd) := ⟨_, OpR.or ho hd, fun ι h H x y z u v Q r rx ry e k => by
  unfold cmpI at e
  split at e
  · cases e
    cases rx
    cases ry
    exact .inl ⟨_, _, rfl, rfl, okP.here k r (.bl _)⟩
  · split at e
    · rename_i a b ha hb
      split at e
      · rename_i ok
        cases e
        obtain ⟨o1, o2, o3, o4⟩ := okC_iff ok
        exact .inr ⟨a, b, by rw [hK]; exact toD_dp r rx ha (okD_iff o1).1, by rw [hK]; exact toD_dp r ry hb (okD_iff o2).1, ok, okP.here k r (.bl _)⟩
      · cases e
    · cases e⟩
def ltO : Op2 := cmpI (fun i j => decide (i < j)) fun a b => PySem.W.dataLt a b
def leO : Op2 := cmpI (fun i j => decide (i ≤ j)) fun a b => !PySem.W.dataLt b a
def gtO : Op2 := cmpI (fun i j => decide (j < i)) fun a b => PySem.W.dataLt b a
def geO : Op2 := cmpI (fun i j => decide (j ≤ i)) fun a b => !PySem.W.dataLt a b
theorem os_lt (hK : X.K = G.K) (hu : X.A.units + 70 < cLine) : OpS G X (compareOp .Lt) ltO := os_cmpI hK op_lt (op_ltD (by omega))
theorem os_le (hK : X.K = G.K) (hu : X.A.units + 70 < cLine) : OpS G X (compareOp .LtE) leO := os_cmpI hK op_le (op_leD (by omega))
theorem os_gt (hK : X.K = G.K) (hu : X.A.units + 70 < cLine) : OpS G X (compareOp .Gt) gtO := os_cmpI hK op_gt (op_gtD (by omega))
theorem os_ge (hK : X.K = G.K) (hu : X.A.units + 70 < cLine) : OpS G X (compareOp .GtE) geO := os_cmpI hK op_ge (op_geD (by omega))
def binI (c : Int → Int → Bool) (g : Int → Int → Int) : Op2 := fun x y _ => match x, y with
  | .d (.int i), .d (.int j) => if c i j = true then some (.d (.int (g i j))) else none
  | _, _ => none
theorem os_binI {f : Value → Value → Sem Value} {C : Int → Int → Prop} {c : Int → Int → Bool} {g : Int → Int → Int} (ho : OpR X f (rI C fun i j => .int (g i j))) (hc : ∀ i j, c i j = true → C i j) : OpS G X f (binI c g) := ⟨_, ho, fun ι h H x y z u v Q r rx ry e k => by
  unfold binI at e
  split at e
  · split at e
    · rename_i q
      cases e
      cases rx
      cases ry
      exact ⟨_, _, rfl, rfl, hc _ _ q, okP.here k r (.int _)⟩
    · cases e
  · cases e⟩
def subO : Op2 := binI (fun _ _ => true) fun i j => i - j
def fdivO : Op2 := binI (fun _ j => decide (0 < j ∧ j.natAbs.log2 < 9000)) fun i j => i / j
def modO : Op2 := binI (fun _ j => decide (0 < j)) fun i j => i % j
def powO : Op2 := binI (fun i j => decide (0 ≤ j ∧ j ≤ 1000000 ∧ i.natAbs < 2 ^ 64)) fun i j => i ^ j.toNat
theorem os_sub : OpS G X (binaryOp .Sub) subO := os_binI (C := fun _ _ => True) (fun pins s σ H x y v u Q I rx ry h => by
  obtain ⟨i, j, rfl, rfl, _, q⟩ := h
  exact op_sub pins s σ H _ _ v u Q I rx ry ⟨i, j, rfl, rfl, q⟩) fun _ _ _ => trivial
theorem os_fdiv : OpS G X (binaryOp .FloorDiv) fdivO := os_binI op_fdivW fun i j h => (of_decide_eq_true h : 0 < j ∧ j.natAbs.log2 < 9000)
theorem os_mod : OpS G X (binaryOp .Mod) modO := os_binI op_mod fun i j h => by simpa using h
theorem os_pow : OpS G X (binaryOp .Pow) powO := os_binI op_pow fun i j h => (of_decide_eq_true h : 0 ≤ j ∧ j ≤ 1000000 ∧ i.natAbs < 2 ^ 64)
def negO : Op1 := fun x _ => match x with
  | .d (.int i) => some (.d (.int (-i)))
  | _ => none
theorem us_neg : UnS G X (unaryOp .USub) negO := ⟨_, un_neg, fun ι h H x z u Q r rx e k => by
  unfold negO at e
  split at e
  · cases e
    cases rx
    exact ⟨_, rfl, okP.here k r (.int _)⟩
  · cases e⟩
/-! ### + -/
/-- what came may be frozen -/
def rFrz2 (r : R2) : R2 := fun x y H Q => r x y H fun v H' => ∃ a xs, v = .ref a ∧ H' a = some (.lst xs) ∧ ∀ o, Q v (upd H' a (frzO xs o))
theorem op_frz {f : Value → Value → Sem Value} {r : R2} (ho : OpR X f r) : OpR X f (rFrz2 r) := by
  intro pins s σ H x y v u Q I rx ry h
  refine thn (ho pins s σ H x y v u _ I rx ry h) fun w s1 hv => ?_
  obtain ⟨z, H1, I1, r1, a, xs, e1, h1, q⟩ := hv
  obtain ⟨o, J⟩ := I1.frz h1
  exact ⟨z, _, J, r1, q o⟩
def rCat2 : R2 := fun x y H Q => ∃ l b xs zs, x = .ref l ∧ y = .ref b ∧ Sq2 H l xs ∧ Sq2 H b zs ∧ xs.length + zs.length ≤ sizeLine ∧ ∀ p, H p = none → Q (.ref p) (upd H p (.lst (xs ++ zs)))
theorem op_cat2 : OpR X (binaryOp .Add) rCat2 := by
  intro pins s σ H x y v u Q I rx ry h
  obtain ⟨l, b, xs, zs, rfl, rfl, hH, hB, hz, q⟩ := h
  cases rx
  cases ry
  obtain ⟨z, its, n, r, e⟩ := hH.obj I
  obtain ⟨z2, its2, n2, r2, e2⟩ := hB.obj I
  have h1 := r.length
  have h2 := r2.length
  refine PySem.P.add_list e e2 ?_ (by rw [List.size_toArray, List.size_toArray]; omega)
  rw [show its.toArray ++ its2.toArray = (its ++ its2).toArray by simp]
  exact ⟨.ref _, _, I.lnew (t' := s.toks) (r.append r2) (by rw [List.length_append]; omega), rfl, q _ I.fresh⟩
def addO : Op2 := fun x y h => match toD h x, toD h y with
  | some (.int i), some (.int j) => some (.d (.int (i + j)))
  | some (.str a), some (.str b) => if a.length + b.length ≤ 1000000 then some (.d (.str (a ++ b))) else none
  | some (.tuple a), some (.tuple b) => if a.length + b.length ≤ 1000000 then some (.d (.tuple (a ++ b))) else none
  | some (.list a), some (.list b) => if a.length + b.length ≤ 1000000 then some (.d (.list (a ++ b))) else none
  | _, _ => none
theorem million {n : Nat} (h : n ≤ 1000000) : n ≤ sizeLine := by rw [sizeLine_eq]; omega
theorem os_add (hK : X.K = G.K) : OpS G X (binaryOp .Add) addO := ⟨_, OpR.or op_add (OpR.or op_add_str (OpR.or op_catA (op_frz op_cat2))), fun ι h H x y z u v Q r rx ry e k => by
  have nl : ∀ {d : PyData}, (match d with | .list _ => False | _ => True) → ∀ ds, d ≠ .list ds := fun h ds z => by subst z; exact h
  unfold addO at e
  split at e
  · rename_i i j h1 h2
    cases e
    have q1 := toD_data rx h1 (nl trivial)
    have q2 := toD_data ry h2 (nl trivial)
    cases q1
    cases q2
    exact .inl ⟨_, _, rfl, rfl, okP.here k r (.int _)⟩
  · rename_i i j h1 h2
    split at e
    · rename_i hl
      cases e
      have q1 := toD_data rx h1 (nl trivial)
      have q2 := toD_data ry h2 (nl trivial)
      cases q1
      cases q2
      exact .inr (.inl ⟨_, _, rfl, rfl, million hl, okP.here k r (.str _)⟩)
    · cases e
  · rename_i a b h1 h2
    split at e
    · rename_i hl
      cases e
      have q1 := toD_data rx h1 (nl trivial)
      have q2 := toD_data ry h2 (nl trivial)
      cases q1 with
      | @tup p xs _ t1 t2 =>
        cases q2 with
        | @tup q ys _ t3 t4 =>
          refine .inr (.inr (.inl ⟨p, q, xs, ys, rfl, rfl, by rw [hK]; exact t1, by rw [hK]; exact t3, million (by rw [t2.length, t4.length]; exact hl), fun e => ?_, fun _ e => ?_, fun _ _ l nl => ?_⟩))
          · subst e
            cases t2
            exact okP.here k r (.tup t3 t4)
          · subst e
            cases t4
            rw [List.append_nil] at k
            exact okP.here k r (.tup t1 t2)
          · exact k ι _ _ (.fresh nl) (r.fresh nl) (.tup (.inl (.inl upd_same)) (RepDs.mono (Stb.fresh nl) _ _ (t2.append t4)))
    · cases e
  · rename_i a b h1 h2
    split at e
    · rename_i hl
      cases e
      obtain ⟨p, xs, rfl, t1, t2⟩ := toD_list r rx h1
      obtain ⟨q, ys, rfl, t3, t4⟩ := toD_list r ry h2
      refine .inr (.inr (.inr ⟨p, q, xs, ys, rfl, rfl, t1, t3, million (by rw [t2.length, t4.length]; exact hl), fun l nl => ⟨l, _, rfl, upd_same, fun o => ?_⟩⟩))
      rw [upd2]
      exact k ι _ _ (.fresh nl) (r.fresh nl) (.lst upd_same (RepDs.mono (Stb.fresh nl) _ _ (t2.append t4)))
    · cases e
  · cases e⟩
/-! ### * -/
def mulO : Op2 := fun x y h => match x, y with
  | .d (.int i), .d (.int j) => if decide (i.natAbs.log2 + j.natAbs.log2 < 1000000) = true then some (.d (.int (i * j))) else none
  | x, .d (.int k) => match toD h x with
    | some (.tuple ds) => if ds ≠ [] ∧ 1 ≤ k ∧ k ≤ 1000 ∧ ds.length ≤ 1000 then some (.d (.tuple (List.replicate k.toNat ds).flatten)) else none
    | some (.list ds) => if 0 ≤ k ∧ k ≤ 1000 ∧ ds.length ≤ 1000 then some (.d (.list (List.replicate k.toNat ds).flatten)) else none
    | _ => none
  | _, _ => none
theorem repDs_rep {K : PySem.W.Frag} {H : Hp} {vs : List V} {ds : List PyData} (r : RepDs K H vs ds) : ∀ n : Nat, RepDs K H (List.replicate n vs).flatten (List.replicate n ds).flatten
  | 0 => .nil
  | n + 1 => by
    rw [List.replicate_succ, List.replicate_succ, List.flatten_cons, List.flatten_cons]
    exact r.append (repDs_rep r n)
theorem tuple_mul1 (l : Addr) (items : Array Value) (n : Nat) (dd : Option Addr) (sl : Array (Option Value)) (x : Int) (u : Tok) (c0 : (decide (x < -(2 ^ 63)) || decide (x ≥ 2 ^ 63)) = false) (c1 : (items.isEmpty || x == 1) = true) :
    Meets (Builtin.«tuple.__mul__» ⟨[.ref l, .int x u], []⟩) (fun _ R s => s.heap.get? l = some { cls := .type "tuple", dict := dd, data := .seq items n, slots := sl } ∧ R (.ok (.ret (Value.ref l))) s) :=
  .of_wp fun prog w A R s h => by
    obtain ⟨hp, g, d, tk, os⟩ := s
    obtain ⟨hl, h⟩ := h
    have f1 := AutoSeq1.idx_int
    wp_walk using wpAny_loadPart' hl
    repeat (first
      | (refine wpAny_ite_false (decide_eq_false (by rw [c0]; exact Bool.false_ne_true)) ?_; wp_walk using wpAny_loadPart' hl)
      | (refine wpAny_ite_true (decide_eq_true (by rw [c1])) ?_; wp_walk using wpAny_loadPart' hl))
    exact ⟨_, rfl, h⟩
/-- a tuple times one: itself -/
def rRep1 (K : PySem.W.Frag) : R2 := fun x y H Q => ∃ l xs, x = .ref l ∧ y = .int 1 ∧ SqT K H l xs ∧ Q (.ref l) H
theorem op_rep1 : OpR X (binaryOp .Mult) (rRep1 X.K) := by
  intro pins s σ H x y v u Q I rx ry h
  obtain ⟨l, xs, rfl, rfl, hT, q⟩ := h
  cases rx
  obtain ⟨t, rfl⟩ := ry
  obtain ⟨its, r, ⟨⟨cls, dd, data, sl⟩, ho, hc, n, hd⟩, hs⟩ := I.tuple hT
  simp only at hc hd
  subst hc hd
  refine wpAny_binaryOp_repeat_ref (T := "tuple") (U := "int") (by decide) ⟨_, ho, rfl⟩ (fun s' => typeIs_int s' 1 t) noFill_tuple_mul F.fills_int_mul F.slot_int_rmul repeat_tuple F.slot_int_index.lookup
    (call_meets F.slot_int_rmul (typeIs_int s 1 t) F.entry_int_rmul (F.args_int_rmul_2 _ _) (int_rmul_tuple 1 t l its.toArray n dd sl)
      ⟨ho, rfl, ⟨_, ho, rfl⟩, call_meets F.slot_tuple_mul ⟨_, ho, rfl⟩ F.entry_tuple_mul (F.args_tuple_mul_2 _ _) (tuple_mul1 l its.toArray n dd sl 1 t (by decide) (by simp)) ⟨ho, ?_⟩⟩)
  exact ⟨.ref l, H, I, rfl, q⟩
/-- a list, frozen or not, times an int -/
def rRepL : R2 := fun x y H Q => ∃ l k xs, x = .ref l ∧ y = .int k ∧ Sq2 H l xs ∧ -(2 ^ 63) ≤ k ∧ k < 2 ^ 63 ∧ xs.length * k.toNat ≤ sizeLine ∧
  ∀ p, H p = none → Q (.ref p) (upd H p (.lst (List.replicate k.toNat xs).flatten))
theorem op_repL : OpR X (binaryOp .Mult) rRepL := by
  intro pins s σ H x y v u Q I rx ry h
  obtain ⟨l, k, xs, rfl, rfl, hH, h1, h2, hz, q⟩ := h
  cases rx
  obtain ⟨t, rfl⟩ := ry
  obtain ⟨z, its, n, r, e⟩ := hH.obj I
  have hl := r.length
  have hlen : its.toArray.size * k.toNat ≤ sizeLine := by rw [List.size_toArray, ← hl]; exact hz
  have hcap : ¬ its.toArray.size * k.toNat > (2 ^ 63 - 1) / 8 := by
    have : (sizeLine : Nat) ≤ (2 ^ 63 - 1) / 8 := by decide
    omega
  have hfit : ¬ (!Builtin.List.listFitsIndex k) = true := by
    rw [fitsIndex_both h1 h2]
    exact Bool.false_ne_true
  have hlong : ¬ Builtin.List.listTooLong (its.toArray.size * k.toNat) = true := by
    rw [notLongL hlen]
    exact Bool.false_ne_true
  have hnew : List.foldl (fun x1 x2 => x1 ++ x2) #[] (List.replicate (if its.toArray.isEmpty = true then 0 else k.toNat) its.toArray) = (List.replicate k.toNat its).flatten.toArray := by
    rw [size_rep]
    cases its with
    | nil => simp
    | cons a r' => rw [if_neg (by simp)]
  refine wpAny_binaryOp_repeat_ref (T := "list") (U := "int") (by decide) ⟨_, e, rfl⟩ (fun s' => typeIs_int s' k t) noFill_list_mul F.fills_int_mul F.slot_int_rmul repeat_list F.slot_int_index.lookup
    (call_meets F.slot_int_rmul (typeIs_int s k t) F.entry_int_rmul (F.args_int_rmul_2 _ _) (int___rmul___int_list k t l its.toArray n)
      ⟨e, rfl, ⟨_, e, rfl⟩, call_meets F.slot_list_mul ⟨_, e, rfl⟩ F.entry_list_mul (F.args_list_mul_2 _ _) (AutoListH.list___mul___list_int_3 l its.toArray n k t hfit hcap hlong) ⟨e, ?_⟩⟩)
  rw [hnew]
  exact ⟨.ref _, _, I.lnew (t' := s.toks) (r.rep k.toNat) (by rw [PyProof.Rows.lm_len_rep_flat, Nat.mul_comm]; exact hz), rfl, q _ I.fresh⟩
theorem rep_small {n : Nat} {k : Int} (h1 : n ≤ 1000) (h2 : k ≤ 1000) : n * k.toNat ≤ sizeLine := by
  have a1 : n * k.toNat ≤ 1000 * 1000 := Nat.mul_le_mul h1 (by omega)
  rw [sizeLine_eq]
  omega
theorem os_mul (hK : X.K = G.K) : OpS G X (binaryOp .Mult) mulO := ⟨_, OpR.or op_mulW (OpR.or (op_rep1) (OpR.or op_repT (op_frz op_repL))), fun ι h H x y z u v Q r rx ry e k => by
  unfold mulO at e
  split at e
  · split at e
    · rename_i q
      cases e
      cases rx
      cases ry
      exact .inl ⟨_, _, rfl, rfl, (of_decide_eq_true q : _), okP.here k r (.int _)⟩
    · cases e
  · rename_i kk _
    cases ry
    split at e
    · rename_i ds hd
      split at e
      · rename_i hq
        cases e
        have q1 := toD_data rx hd fun _ z => by cases z
        cases q1 with
        | @tup p xs _ h1 h2 =>
          obtain ⟨c1, c2, c3, c4⟩ := hq
          by_cases e1 : kk = 1
          · subst e1
            refine .inr (.inl ⟨p, xs, rfl, rfl, by rw [hK]; exact h1, ?_⟩)
            have es : (List.replicate (Int.toNat 1) ds).flatten = ds := by simp
            rw [es] at k
            exact okP.here k r (.tup h1 h2)
          · refine .inr (.inr (.inl ⟨p, kk, xs, rfl, rfl, by rw [hK]; exact h1, fun z => ?_, by omega, c3, by rw [h2.length]; exact c4, fun l nl => ?_⟩))
            · subst z
              cases h2
              exact c1 rfl
            · exact k ι _ _ (.fresh nl) (r.fresh nl) (.tup (.inl (.inl upd_same)) (RepDs.mono (Stb.fresh nl) _ _ (repDs_rep h2 _)))
      · cases e
    · rename_i ds hd
      split at e
      · rename_i hq
        cases e
        obtain ⟨p, xs, rfl, h1, h2⟩ := toD_list r rx hd
        refine .inr (.inr (.inr ⟨p, kk, xs, rfl, rfl, h1, by omega, by omega, rep_small (by rw [h2.length]; exact hq.2.2) hq.2.1, fun l nl => ⟨l, _, rfl, upd_same, fun o => ?_⟩⟩))
        rw [upd2]
        exact k ι _ _ (.fresh nl) (r.fresh nl) (.lst upd_same (RepDs.mono (Stb.fresh nl) _ _ (repDs_rep h2 _)))
      · cases e
    · cases e
  · cases e⟩
end
end Q

set_option Elab.async false
set_option maxRecDepth 100000
set_option linter.all false
set_option autoImplicit false
/-! QN: chains, membership, subscripts, dicts. -/
namespace Q
open PySem PySem.Spec PyProof.Rows L2 LamX

instance (x : PyData) : Decidable (keyOk x) := match h : keyD x with
  | none => .isFalse fun ⟨k, e, _⟩ => by rw [h] at e; cases e
  | some k => if d : k.depth ≤ 8 then .isTrue ⟨k, h, d⟩ else .isFalse fun ⟨k', e, d'⟩ => by rw [h] at e; cases e; exact d d'

section
variable {G : Gd} {X : Cx} {pos : Pos} {a b c : Expr} {ma mb mc : SemE}
/-! ### a op b op' c -/
def eChain (o o' : Op2) (ma mb mc : SemE) : SemE := fun ρ h => (ma ρ h).bind fun x h1 => (mb ρ h1).bind fun y h2 => match o x y h2 with
  | some (.d (.bool true)) => (mc ρ h2).bind fun z h3 => .ofOpt (o' y z h3) h3
  | some (.d (.bool false)) => .ok (.d (.bool false)) h2
  | _ => .bad
theorem chain_red {U : WX} {o o' : Op2} {r r' : R2} {σ : L2.St} {H : Hp} {Q : VK} (hr : ∀ (ι : Io) (h : AH) (H : Hp) (x y z : W) (u v : V) (Q : VK), RlH G ι h H → RepW G ι H x u → RepW G ι H y v → o x y h = some z → okP G ι H Q z h → r u v H Q)
    (hr' : ∀ (ι : Io) (h : AH) (H : Hp) (x y z : W) (u v : V) (Q : VK), RlH G ι h H → RepW G ι H x u → RepW G ι H y v → o' x y h = some z → okP G ι H Q z h → r' u v H Q)
    (h : rdE G U (eChain o o' ma mb mc) σ H Q) : tChain r r' (rdE G U ma) (rdE G U mb) (rdE G U mc) σ H Q := by
  refine rd_bind (k := fun x ρ h1 => (mb ρ h1).bind fun y h2 => match o x y h2 with
    | some (.d (.bool true)) => (mc ρ h2).bind fun z h3 => .ofOpt (o' y z h3) h3
    | some (.d (.bool false)) => .ok (.d (.bool false)) h2
    | _ => .bad) h fun ι ι1 ρ x h1 v H1 e1 r1 re1 v1 m1 => ?_
  rw [to_bind] at m1
  refine ⟨ι1, ρ, h1, r1, re1, Out.to_mono m1 (fun y h2 z ι2 u H2 e2 r2 u2 => ?_) fun _ _ _ z => z⟩
  have z := toUpP e2 z
  split at z
  · rename_i eo
    refine hr ι2 h2 H2 x y _ v u _ r2 (v1.mono e2) u2 eo fun ι3 w H3 e3 r3 v3 => ?_
    cases v3
    have z := toUpP e3 z
    refine ⟨true, rfl, ?_⟩
    rw [if_pos rfl]
    rw [to_bind] at z
    refine ⟨ι3, ρ, h2, r3, (re1.mono e2).mono e3, Out.to_mono z (fun q h4 k ι4 t H4 e4 r4 t4 => ?_) fun _ _ _ z => z⟩
    obtain ⟨p, ep, k⟩ := to_ofOpt k
    exact hr' ι4 h4 H4 y q p u t Q r4 ((u2.mono e3).mono e4) t4 ep (k.up e4)
  · rename_i eo
    refine hr ι2 h2 H2 x y _ v u _ r2 (v1.mono e2) u2 eo fun ι3 w H3 e3 r3 v3 => ?_
    cases v3
    refine ⟨false, rfl, ?_⟩
    rw [if_neg Bool.false_ne_true]
    exact okP.here (okP.up e3 z) r3 (.bl false)
  · exact z.elim
theorem je_chain {op op' : CmpOp} {o o' : Op2} (ho : OpS G X (compareOp op) o) (ho' : OpS G X (compareOp op') o') (ha : JE G X ma a) (hb : JE G X mb b) (hc : JE G X mc c) (hm : lastMarks [op, op'] [b, c] = false := by with_unfolding_all rfl) : JE G X (eChain o o' ma mb mc) (.Compare a [op, op'] [b, c] pos) := fun U t => by
  obtain ⟨r, h1, h2⟩ := ho
  obtain ⟨r', h3, h4⟩ := ho'
  exact (pe_chain h1 h3 (ha U t) (hb U t) (hc U t) hm).imp fun σ H Q h => chain_red h2 h4 h
theorem jt_chain {op op' : CmpOp} {o o' : Op2} (ho : OpS G X (compareOp op) o) (ho' : OpS G X (compareOp op') o') (ha : JE G X ma a) (hb : JE G X mb b) (hc : JE G X mc c) (hm : lastMarks [op, op'] [b, c] = false := by with_unfolding_all rfl) : JT G X (tOf (eChain o o' ma mb mc)) (.Compare a [op, op'] [b, c] pos) := fun U t => by
  obtain ⟨r, h1, h2⟩ := ho
  obtain ⟨r', h3, h4⟩ := ho'
  exact (pt_chain h1 h3 (ha U t) (hb U t) (hc U t) hm).imp fun σ H Q h => chain_red h2 h4 (tOf_red h)
/-! ### x in c, x not in c -/
def inB (x y : W) (h : AH) : Option Bool := match toD h y with
  | some (.list ds) => match toD h x with
    | some d => if d.plain && PyData.plainAll ds && decide (d.depth ≤ 64) then some (ds.any fun z => z.eqv d) else none
    | none => none
  | some (.tuple ds) => match toD h x with
    | some d => if d.plain && PyData.plainAll ds && decide (d.depth ≤ 64) then some (ds.any fun z => z.eqv d) else none
    | none => none
  | _ => match y, x with
    | .ref i, .d k => match h.f i with
      | some (.dct kvs) => if keyOk k then some (lookD k kvs).isSome else none
      | _ => none
    | _, _ => none
def inO : Op2 := fun x y h => (inB x y h).map bO
def notInO : Op2 := fun x y h => (inB x y h).map fun b => bO (!b)
def rInA (f : Value → Value → Sem Value) (X : Cx) (g : Bool → Bool) : R2 := fun x y H Q => ∃ b, Q (.bl (g b)) H ∧ ∀ (pins : List (Addr × Obj)) (s : Shared) (σ : L2.St) (v u : Value) (R : Value → Shared → Prop), Inv X pins σ H s → RelV x v → RelV y u → (∀ tk, R (.bool (g b)) { s with toks := tk }) → wpAny (model X.prog X.w) X.A (f v u) R X.xe s
theorem op_rInA {f : Value → Value → Sem Value} {g : Bool → Bool} : OpR X f (rInA f X g) := by
  intro pins s σ H x y v u Q I rx ry h
  obtain ⟨b, q, k⟩ := h
  exact k pins s σ v u _ I rx ry fun tk => ⟨.bl _, H, I.tok tk, rfl, q⟩
theorem dx_notIn {pins : List (Addr × Obj)} {σ : L2.St} {H : Hp} {s : Shared} {ι : Io} {A : Around} {E : Value → Shared → Prop} {a : Addr} {kvs : List (PyData × W)} {x : PyData} {xv : V} {u : Value} {Q : Value → Shared → Prop} (I : Inv X pins σ H s) (hK : X.K = G.K) (hw : X.w = G.w) (hu : A.units + 9 < cLine) (ro : RepO G ι H a (.dct kvs)) (rx : RepD G.K H xv x) (ru : RelV xv u) (hx : keyOk x)
    (h : ∀ tk, Q (.bool (!(lookD x kvs).isSome)) { s with toks := tk }) : wpAny (model X.prog X.w) A (compareOp .NotIn u (.ref a)) Q E s := by
  have hs := ro.1
  have hT : s.TypeIs (.ref a) "dict" := by
    obtain ⟨_, _, _, rs, hH, _⟩ := id ro
    exact dx_typeIs I hH
  show wpAny _ _ (do return .bool (!(← contains (.ref a) u))) Q E s
  refine wpAny_bind ?_
  unfold contains
  try with_reducible refine wpAny_holding ?_
  refine wpAny_bind (wpAny_specialOf hT slot_dict_contains.lookup ?_)
  show wpAny _ _ (if (some (Value.builtin "dict.__contains__") == some Value.none) = true then _ else _) _ E s
  rw [if_neg (by rw [beq_builtin_none]; exact Bool.false_ne_true)]
  refine wpAny_bind (wpAny_callSpecialUnlessNone?_slot (name := Str.ofString "__contains__") hT slot_dict_contains (wpAny_call_entry slot_dict_contains hT entry_dict_contains ?_ (args_dict_contains _ _)))
  show wpAny _ _ (dictGet a u >>= _) _ _ s
  refine wpAny_bind (dx_get I hK hw (show A.in1.units + 8 < cLine by rw [Around.in1_units]; omega) ro rx ru hx (fun e tk => ?_) fun v vv uv e _ _ tk => ?_)
  · rw [e] at h
    show wpAny _ _ (Builtin.Dict.pendingKey? a u >>= _) _ _ _
    exact wpAny_bind (wpAny_pendingKey_other hs (wpAny_pure ⟨_, rfl, wpAny_truthy_bool (wpAny_pure (h tk))⟩))
  · rw [e] at h
    show wpAny _ _ (ret (.bool true)) _ _ _
    exact wpAny_pure ⟨_, rfl, wpAny_truthy_bool (wpAny_pure (h tk))⟩
theorem inB_rel {ι : Io} {h : AH} {H : Hp} {x y : W} {xv yv : V} {bb : Bool} (hK : X.K = G.K) (hw : X.w = G.w) (hu : X.A.units + 70 < cLine) (r : RlH G ι h H) (rx : RepW G ι H x xv) (ry : RepW G ι H y yv) (e : inB x y h = some bb) :
    ∀ (pins : List (Addr × Obj)) (s : Shared) (σ : L2.St) (v u : Value) (R : Value → Shared → Prop), Inv X pins σ H s → RelV xv v → RelV yv u →
      ((∀ tk, R (.bool bb) { s with toks := tk }) → wpAny (model X.prog X.w) X.A (compareOp .In v u) R X.xe s) ∧ ((∀ tk, R (.bool (!bb)) { s with toks := tk }) → wpAny (model X.prog X.w) X.A (compareOp .NotIn v u) R X.xe s) := by
  intro pins s σ v u R I rv ru
  unfold inB at e
  split at e
  · rename_i ds hy
    split at e
    · rename_i d hx
      split at e
      · rename_i ok
        cases e
        simp only [Bool.and_eq_true, decide_eq_true_eq] at ok
        obtain ⟨⟨p1, p2⟩, p3⟩ := ok
        have h1 := toD_dp r rx hx p1
        have h2 : Dp G.K H yv (.list ds) := toD_dp r ry hy (by simpa only [PyData.plain] using p2)
        rw [← hK] at h1 h2
        obtain ⟨as, r1⟩ := Dp.reads I d xv v h1 rv
        obtain ⟨bs, r2⟩ := Dp.reads I (.list ds) yv u h2 ru
        have room : X.A.units + 1 + min (PyData.depthAll ds) d.depth < cLine := by omega
        exact ⟨fun k => SeqAt.in_list_data r2 r1 p2 p1 room (k s.toks), fun k => SeqAt.notIn_list_data r2 r1 p2 p1 room (k s.toks)⟩
      · cases e
    · cases e
  · rename_i ds hy
    split at e
    · rename_i d hx
      split at e
      · rename_i ok
        cases e
        simp only [Bool.and_eq_true, decide_eq_true_eq] at ok
        obtain ⟨⟨p1, p2⟩, p3⟩ := ok
        have h1 := toD_dp r rx hx p1
        have h2 : Dp G.K H yv (.tuple ds) := toD_dp r ry hy (by simpa only [PyData.plain] using p2)
        rw [← hK] at h1 h2
        obtain ⟨as, r1⟩ := Dp.reads I d xv v h1 rv
        obtain ⟨bs, r2⟩ := Dp.reads I (.tuple ds) yv u h2 ru
        have room : X.A.units + 1 + min (PyData.depthAll ds) d.depth < cLine := by omega
        exact ⟨fun k => SeqAt.in_tuple_data r2 r1 p2 p1 room (k s.toks), fun k => SeqAt.notIn_tuple_data r2 r1 p2 p1 room (k s.toks)⟩
      · cases e
    · cases e
  · split at e
    · rename_i i k _ _
      split at e
      · rename_i kvs hi
        split at e
        · rename_i ok
          cases e
          obtain ⟨p, hp, rfl⟩ := ry
          obtain ⟨q, hq, ro⟩ := r.ob i _ hi
          rw [hp] at hq
          cases hq
          cases (show u = Value.ref p from ru)
          exact ⟨fun q => dx_in I hK hw (by omega) ro rx rv ok q, fun q => dx_notIn I hK hw (by omega) ro rx rv ok q⟩
        · cases e
      · cases e
    · cases e
theorem os_in (hK : X.K = G.K) (hw : X.w = G.w) (hu : X.A.units + 70 < cLine) : OpS G X (compareOp .In) inO := ⟨_, op_rInA (g := id), fun ι h H x y z u v Q r rx ry e k => by
  unfold inO at e
  cases eb : inB x y h with
  | none => rw [eb] at e; cases e
  | some b =>
    rw [eb] at e
    cases e
    exact ⟨b, okP.here k r (.bl b), fun pins s σ v u R I rv ru q => (inB_rel hK hw hu r rx ry eb pins s σ v u R I rv ru).1 q⟩⟩
theorem os_notIn (hK : X.K = G.K) (hw : X.w = G.w) (hu : X.A.units + 70 < cLine) : OpS G X (compareOp .NotIn) notInO := ⟨_, op_rInA (g := not), fun ι h H x y z u v Q r rx ry e k => by
  unfold notInO at e
  cases eb : inB x y h with
  | none => rw [eb] at e; cases e
  | some b =>
    rw [eb] at e
    cases e
    exact ⟨b, okP.here k r (.bl _), fun pins s σ v u R I rv ru q => (inB_rel hK hw hu r rx ry eb pins s σ v u R I rv ru).2 q⟩⟩
/-! ### a[b] -/
/-- the item at an index, from either end -/
def atW (xs : List W) (i : Int) : Option W := atI xs i
theorem atI_rep {F : W → V → Prop} {ws : List W} {vs : List V} {i : Int} {w : W} (p : Paired F ws vs) (e : atI ws i = some w) : ∃ v, atI vs i = some v ∧ F w v := by
  unfold atI at e ⊢
  rw [← p.length]
  cases q : ixN ws.length i with
  | none => rw [q] at e; cases e
  | some j =>
    rw [q] at e
    exact Paired.get1 p e
def ixO : Op2 := fun x y h => match x, y with
  | .d (.list ds), .d (.int i) => (atI ds i).map .d
  | .d (.tuple ds), .d (.int i) => (atI ds i).map .d
  | .ref k, .d j => match h.f k with
    | some (.lst ws) => match j with
      | .int i => atI ws i
      | _ => none
    | some (.dct kvs) => if keyOk j then lookD j kvs else none
    | _ => none
  | _, _ => none
theorem atI_map {α β : Type} (f : α → β) (xs : List α) (i : Int) : atI (xs.map f) i = (atI xs i).map f := by
  unfold atI
  rw [List.length_map]
  cases ixN xs.length i with
  | none => rfl
  | some j => simp
/-- a dict's item, whatever is wished -/
def rIxX (X : Cx) (G : Gd) : R2 := fun x y H Q => ∃ (ι : Io) (a : Addr) (kvs : List (PyData × W)) (k : PyData) (w : W), x = .ref a ∧ RepO G ι H a (.dct kvs) ∧ RepD G.K H y k ∧ keyOk k ∧ lookD k kvs = some w ∧ ∀ v, RepW G.bare ι H w v → Q v H
theorem ix_dx (hK : X.K = G.K) (hw : X.w = G.w) (hu : X.A.units + 70 < cLine) : IxR X (rIxX X G) := by
  intro value slice pins s σ H x y v u Q I rx ry h hs
  obtain ⟨ι, a, kvs, k, w, rfl, ro, rk, ok, hl, q⟩ := h
  cases rx
  have hT : s.TypeIs (.ref a) "dict" := by
    obtain ⟨_, _, _, rs, hH, _⟩ := id ro
    exact dx_typeIs I hH
  unfold subscriptTail
  refine wpAny_bind ?_
  rw [getitemInPython_of_ne hT.not_modules]
  refine wpAny_bind (wpAny_specialOf hT PySem.F.slot_dict_getitem.lookup ?_)
  have fin : wpAny (model X.prog X.w) X.A (subscripted slice false (.ref a) u) (fun r s₃ => wpAny (model X.prog X.w) X.A (letTemporaryGo value (.ref a) r >>= fun _ => pure r) (EP X pins σ Q) X.xe s₃) X.xe s := by
    rw [hs]
    exact wpAny_operating (dx_item I hK hw (by omega) ro rk ry ok hl fun vv uv r1 r2 tk => wpAny_bind (wpAny_letTemporaryGo (wpAny_pure ⟨vv, H, I.tok tk, r2, q vv r1⟩)))
  first
    | exact wpAny_pure (wpAny_bind fin)
    | exact wpAny_bind (wpAny_pure (wpAny_bind fin))
    | exact wpAny_bind fin
theorem je_sub (hK : X.K = G.K) (hw : X.w = G.w) (hu : X.A.units + 70 < cLine) (ha : JE G X ma a) (hb : JE G X mb b) (hs : PlainIx b := by exact fun _ _ => rfl) : JE G X (eOp ixO ma mb) (.Subscript a b pos) := fun U t => by
  refine (pe_ix ((ix_list (X := X)).or ((ix_tup (X := X)).or (ix_dx hK hw hu))) (ha U t) (hb U t) hs).imp fun σ H Q h => op_red (fun ι h H x y z u v Q r rx ry e k => ?_) h
  unfold ixO at e
  split at e
  · rename_i ds i
    cases q : atI ds i with
    | none => rw [q] at e; cases e
    | some d =>
      rw [q] at e
      cases e
      cases rx with
      | @lst p o xs _ h1 h2 =>
        cases ry
        obtain ⟨w, e1, e2⟩ := atI_rep (w := .d d) (rep_map (G := G) (ι := ι) h2) (by rw [atI_map, q]; rfl)
        exact .inl ⟨p, xs, i, w, rfl, rfl, .inl (.inr ⟨o, h1⟩), e1, okP.here k r e2⟩
  · rename_i ds i
    cases q : atI ds i with
    | none => rw [q] at e; cases e
    | some d =>
      rw [q] at e
      cases e
      cases rx with
      | @tup p xs _ h1 h2 =>
        cases ry
        obtain ⟨w, e1, e2⟩ := atI_rep (w := .d d) (rep_map (G := G) (ι := ι) h2) (by rw [atI_map, q]; rfl)
        exact .inr (.inl ⟨p, xs, i, w, rfl, rfl, by rw [hK]; exact h1, e1, okP.here k r e2⟩)
  · rename_i j d
    obtain ⟨p, hp, rfl⟩ := rx
    split at e
    · rename_i ws hi
      obtain ⟨q, hq, vs, hv, rw0⟩ := r.ob j _ hi
      rw [hp] at hq
      cases hq
      split at e
      · rename_i i
        cases ry
        obtain ⟨w, e1, e2⟩ := atI_rep rw0 e
        exact .inl ⟨p, vs, i, w, rfl, rfl, .inl (.inl hv), e1, okP.here k r e2.up⟩
      · cases e
    · rename_i kvs hi
      obtain ⟨q, hq, ro⟩ := r.ob j _ hi
      rw [hp] at hq
      cases hq
      split at e
      · rename_i ok
        exact .inr (.inr ⟨ι, p, kvs, d, z, rfl, ro, ry, ok, e, fun v rv => okP.here k r rv.up⟩)
      · cases e
    · cases e
  · cases e
/-! ### d[k] = v -/
def putIn (w x y : W) (ρ : Env') (h3 : AH) : OutS := match x, y with
  | .ref i, .d k => match h3.f i with
    | some (.dct kvs) => if w.flat = true ∧ keyOk k ∧ kvs.length < 1000000 then .nx ρ (h3.set i (.dct (putD k w kvs))) else .bad
    | _ => .bad
  | _, _ => .bad
def sPut (mo mi mv : SemE) : SemS := fun ρ h => (mv ρ h).st fun w h1 => (mo ρ h1).st fun x h2 => (mi ρ h2).st fun y h3 => putIn w x y ρ h3
theorem dx_code {pins : List (Addr × Obj)} {σ : L2.St} {s : Shared} {H : Hp} {p : Addr} {rs : List DictEntry} (I : Inv X pins σ H s) (h : H p = some (DX p rs)) (q : Str) : H p ≠ some (CodeO p q) := fun z => by
  obtain ⟨o, ep, ho, hc, hd⟩ := dx_obj I h
  obtain ⟨⟨oc, vs, t, e1, e2, _⟩, _⟩ := I.hok p _ z
  rw [ho] at e1
  cases e1
  rw [hd] at e2
  cases e2
theorem loose_dx {pins : List (Addr × Obj)} {σ : L2.St} {s : Shared} {H : Hp} {p : Addr} {rs : List DictEntry} (I : Inv X pins σ H s) (e : H p = some (DX p rs)) : Loose H p := ⟨fun _ z => (by rw [e] at z; cases z), fun _ _ z => (by rw [e] at z; cases z), fun _ z => (by rw [e] at z; cases z), dx_code I e⟩
theorem js_put {o i value : Expr} {pos' : Pos} {mo mi mv : SemE} (hK : X.K = G.K) (hw : X.w = G.w) (hu : X.A.units + 70 < cLine) (ho : JE G X mo o) (hi : JE G X mi i) (hv : JE G X mv value) (hs : swapsWith value (some (.Subscript o i pos')) pos.line X.env = pure false := by rfl) :
    JS G X (sPut mo mi mv) (.Assign [.Subscript o i pos'] value pos) := fun U t => by
  refine ⟨fun pins s σ H D I h => ?_⟩
  have h' : rdE G U mv σ H fun v H1 => ∃ (ι1 : Io) (ρ : Env') (w : W) (h1 : AH), RlH G ι1 h1 H1 ∧ RlE G ι1 ρ σ H1 ∧ RepW G ι1 H1 w v ∧ stP G ι1 H1 U D ((mo ρ h1).st fun x h2 => (mi ρ h2).st fun y h3 => putIn w x y ρ h3) := rdS_bind (k := fun w ρ h1 => (mo ρ h1).st fun x h2 => (mi ρ h2).st fun y h3 => putIn w x y ρ h3) h fun ι1 ρ x h1 v H1 r1 re1 v1 q => ⟨ι1, ρ, x, h1, r1, re1, v1, q⟩
  refine wpAny_Assign_Subscript (thn ((hv U t).run pins s σ H _ I h') fun r s1 ⟨v, H1, I1, rv, ι1, ρ, w, h1, r1, re1, v1, q1⟩ => ?_) hs
  have q1' := st_to (σ := σ) q1
  have h2' : rdE G U mo σ H1 fun x H2 => ∃ (ι2 : Io) (x' : W) (h2 : AH), Ext ι1 H1 ι2 H2 ∧ RlH G ι2 h2 H2 ∧ RepW G ι2 H2 x' x ∧ stP G ι2 H2 U D ((mi ρ h2).st fun y h3 => putIn w x' y ρ h3) := ⟨ι1, ρ, h1, r1, re1, Out.to_mono q1' (fun x' h2 z ι2 x H2 e2 r2 x2 => ⟨ι2, x', h2, e2, r2, x2, z.up e2⟩) fun _ _ _ z => z⟩
  refine thn ((ho U t).run pins s1 σ H1 _ I1 h2') fun u s2 ⟨x, H2, I2, rx, ι2, x', h2, e2, r2, x2, q2⟩ => ?_
  have q2' := st_to (σ := σ) q2
  have h3' : rdE G U mi σ H2 fun y H3 => ∃ (ι3 : Io) (y' : W) (h3 : AH), Ext ι2 H2 ι3 H3 ∧ RlH G ι3 h3 H3 ∧ RepW G ι3 H3 y' y ∧ stP G ι3 H3 U D (putIn w x' y' ρ h3) := ⟨ι2, ρ, h2, r2, re1.mono e2, Out.to_mono q2' (fun x' h3 z ι3 x H3 e3 r3 x3 => ⟨ι3, x', h3, e3, r3, x3, z.up e3⟩) fun _ _ _ z => z⟩
  refine thn ((hi U t).run pins s2 σ H2 _ I2 h3') fun iv s3 ⟨y, H3, I3, ry, ι3, y', h3, e3, r3, y3, q3⟩ => ?_
  unfold putIn at q3
  split at q3
  · rename_i j k _
    split at q3
    · rename_i kvs hj
      split at q3
      · rename_i ok
        obtain ⟨hf, hk, hl⟩ := ok
        obtain ⟨p, hp, rfl⟩ := x2
        cases (show u = Value.ref p from rx)
        have hp3 := e3.up _ _ hp
        obtain ⟨q, hq, ro⟩ := r3.ob j _ hj
        rw [hp3] at hq
        cases hq
        obtain ⟨_, _, _, rs, hH, _⟩ := id ro
        have vb := ((v1.down hf).mono e2).mono e3
        have hl' : kvs.length < sizeLine := by rw [sizeLine_eq]; omega
        refine dx_set I3 hK hw (by omega) ro hl' y3 ry hk vb rv fun rs' s4 I4 pr => ?_
        have lo : Loose H3 p := loose_dx I3 hH
        have x4 : Ext ι3 H3 ι3 (upd H3 p (DX p rs')) := .write hp3 lo
        refine ⟨σ, _, I4, q3 ι3 σ _ x4 (r3.write hp3 lo ⟨ro.1, ?_, putD_nodup ro.2.2.1, rs', upd_same, paired_mono (fun _ _ r => r.mono0 x4.lo) pr⟩) (((re1.mono e2).mono e3).mono x4)⟩
        have := putD_length k w kvs
        omega
      · exact q3.elim
    · exact q3.elim
  · exact q3.elim
/-! ### {}, {'k': v, ..} -/
def eDctD : SemE := fun _ h => .ok (.d (.dict [])) h
def eDctH : SemE := fun _ h => .ok (.ref h.n) (h.new (.dct []))
theorem je_dctD : JE G X eDctD (.Dict [] [] pos) := fun U t => ⟨fun pins s σ H Q I ⟨ι, ρ, h0, rh, re, m⟩ => by
  refine wpAny_Dict_empty ?_
  have n := I.hok.fresh (Nat.le_refl s.heap.objs.size)
  refine ⟨.ref s.heap.objs.size, _, I.laid (a := s.heap.objs.size) (o := .frz { cls := .type "dict", data := .dict #[] } (.dK [])) (t' := s.toks) (fun _ _ q => Heap.get?_push_of_some _ q) (Nat.le_refl _) ⟨Heap.get?_push_size _ rfl, dk_empty s.heap I.big⟩, rfl, ?_⟩
  exact m ι _ _ (.fresh n) (rh.fresh n) (.dct upd_same)⟩
theorem je_dctH : JE G X eDctH (.Dict [] [] pos) := fun U t => ⟨fun pins s σ H Q I ⟨ι, ρ, h0, rh, re, m⟩ => by
  refine wpAny_Dict_empty ?_
  have n := I.hok.fresh (Nat.le_refl s.heap.objs.size)
  have ok : ∀ H' : Hp, ObjOk X.prog X.w H' (s.heap.push { cls := .type "dict", data := .dict #[] }) s.heap.objs.size (DX s.heap.objs.size []) := fun H' => by
    refine ⟨⟨_, 0, Heap.get?_push_size _ rfl, ⟨rfl, rfl, rfl⟩, rfl⟩, ⟨_, Heap.get?_push_size _ rfl⟩, ?_⟩
    rintro h1 h2 ⟨o1, ep1, f1, f2, f3⟩ st
    exact ⟨o1, ep1, st _ f1, f2, f3⟩
  refine ⟨.ref s.heap.objs.size, _, I.laid (a := s.heap.objs.size) (o := DX s.heap.objs.size []) (t' := s.toks) (fun _ _ q => Heap.get?_push_of_some _ q) (Nat.le_refl _) (ok _), rfl, ?_⟩
  refine m _ _ _ (rh.newExt n) (rh.new n ⟨beq_eq_false_iff_ne.mpr (Ne.symm (Nat.ne_of_lt I.big)), Nat.zero_le _, List.nodup_nil, [], upd_same, .nil⟩) ⟨_, Io.new_same, rfl⟩⟩
/-- keys that are texts, values by a row of them -/
def eDisp (ks : List Str) (ms : SemA) : SemE := fun ρ h => (ms ρ h).bind fun ws h1 => if ws.all W.flat = true ∧ ws.length = ks.length then .ok (.ref h1.n) (h1.new (.dct ((ks.zip ws).map fun p => (.str p.1, p.2)))) else .bad
def JP (G : Gd) (X : Cx) (ks : List Str) (ms : SemA) (keys : List (Option Expr)) (values : List Expr) : Prop := keys.length = ks.length ∧ values.length = ks.length ∧ keys.all (·.isSome) = true ∧ ∀ (U : WX) (pos : Pos), Takes X U → ∃ trs, PPs X pos keys values trs ∧ ∀ σ H Q, (rdA G U ms σ H fun vs H' => Q ((ks.map V.str).zip vs) H') → tPairs trs σ H Q
theorem jp_nil : JP G X [] aNil [] [] := ⟨rfl, rfl, rfl, fun U pos t => ⟨[], pps_nil, fun σ H Q ⟨ι, ρ, h0, rh, re, m⟩ => m ι [] H .refl rh .nil⟩⟩
theorem jp_cons {k : Str} {ks : List Str} {m : SemE} {ms : SemA} {keys : List (Option Expr)} {values : List Expr} {e : Expr} {j : Nat} {p : Pos} (he : JE G X m e) (hr : JP G X ks ms keys values) : JP G X (k :: ks) (aCons m ms) (some (.Constant (.str k) j p) :: keys) (e :: values) := by
  obtain ⟨l1, l2, l3, hr⟩ := hr
  refine ⟨by simp [l1], by simp [l2], by simpa using l3, fun U pos t => ?_⟩
  obtain ⟨trs, h1, h2⟩ := hr U pos t
  refine ⟨(_, _) :: trs, pps_cons pe_str (he U t) h1, fun σ H Q h => ?_⟩
  show rdE G U m σ H fun y H2 => tPairs trs σ H2 fun ps H3 => Q ((.str k, y) :: ps) H3
  obtain ⟨ι, ρ, h0, rh, re, q⟩ := h
  unfold aCons at q
  rw [to_bind] at q
  refine ⟨ι, ρ, h0, rh, re, Out.to_mono q (fun x h1 z ι1 v H1 e1 r1 v1 => h2 σ H1 _ ?_) fun _ _ _ z => z⟩
  rw [to_bind] at z
  refine ⟨ι1, ρ, h1, r1, re.mono e1, Out.to_mono z (fun xs h2 z2 ι2 vs H2 e2 r2 v2 => ?_) fun _ _ _ z2 => z2.up e1⟩
  exact z2 ι2 _ H2 (e1.trans e2) r2 (.cons (v1.mono e2) v2)
theorem merged_nodup {K : Type} [DecidableEq K] : ∀ (more kvs : List (K × Value)), ((kvs ++ more).map (·.1)).Nodup → merged kvs more = kvs ++ more
  | [], kvs, _ => by simp [merged]
  | p :: more, kvs, n => by
    have hn : kvs.any (fun kv => kv.1 = p.1) = false := by
      rw [List.any_eq_false]
      intro q hq z
      have z : q.1 = p.1 := of_decide_eq_true z
      rw [List.map_append, List.nodup_append] at n
      exact n.2.2 q.1 (List.mem_map_of_mem hq) p.1 (by simp) z
    have e : stored kvs p.1 p.2 = kvs ++ [p] := by
      unfold stored
      rw [hn]
      rfl
    show merged (stored kvs p.1 p.2) more = _
    rw [e, merged_nodup more (kvs ++ [p]) (by simpa using n)]
    simp
end
end Q

set_option Elab.async false
set_option maxRecDepth 100000
set_option linter.all false
set_option autoImplicit false
/-! QO: calls of built-ins, isinstance, methods of lists, displays of dicts, comprehensions into lists of the heap. -/
namespace Q
open PySem PySem.Spec PyProof.Rows L2 LamX

abbrev OpN := List W → AH → Option W
def eApp (o : OpN) (ms : SemA) : SemE := fun ρ h => (ms ρ h).bind fun xs h1 => .ofOpt (o xs h1) h1
def CallS (G : Gd) (X : Cx) (f : Value) (o : OpN) : Prop := ∃ r : List V → Hp → VK → Prop, CallR X f r ∧ ∀ (ι : Io) (h : AH) (H : Hp) (xs : List W) (z : W) (vs : List V) (Q : VK), RlH G ι h H → RepWs G ι H xs vs → o xs h = some z → okP G ι H Q z h → r vs H Q
section
variable {G : Gd} {X : Cx} {pos : Pos} {e : Expr} {es : List Expr} {ms : SemA} {o : OpN} {x : Str} {p : Pos} {id T : String}
theorem app_red {U : WX} {σ : L2.St} {H : Hp} {Q : VK} {r : List V → Hp → VK → Prop} (hr : ∀ (ι : Io) (h : AH) (H : Hp) (xs : List W) (z : W) (vs : List V) (Q : VK), RlH G ι h H → RepWs G ι H xs vs → o xs h = some z → okP G ι H Q z h → r vs H Q) (h : rdE G U (eApp o ms) σ H Q) : tCB r (rdA G U ms) σ H Q := by
  refine rdA_bind (k := fun xs h1 => .ofOpt (o xs h1) h1) h fun ι1 xs h1 vs H1 r1 v1 m1 => ?_
  obtain ⟨z, ez, k⟩ := to_ofOpt m1
  exact hr ι1 h1 H1 xs z vs Q r1 v1 ez k
theorem je_callB (hc : CallS G X (.builtin id) o) (hg : Gl X x) (hm : X.mg x = none) (hv : bootBuiltins x = some (.builtin id)) (ha : JA G X ms (e :: es)) (hn : x ≠ "__name__" := by decide) (hdb : (x == ("__debug__" : Str)) = false := by decide)
    (he : starEach (e :: es) X.env = (false, eval e X.env) :: starEach es X.env := by rfl) (hpl : (backTo pos (starEach es X.env)).any (·.1) = false := by rfl) : JE G X (eApp o ms) (.Call (.Name x p) (e :: es) [] pos) := fun U t => by
  obtain ⟨r, h1, h2⟩ := hc
  exact (pe_callB h1 hg hm hv (ha U t) hn hdb he hpl).imp fun σ H Q h => app_red h2 h
theorem je_callTy (hc : CallS G X (.type T) o) (hg : Gl X x) (hm : X.mg x = none) (hv : bootBuiltins x = some (.type T)) (ha : JA G X ms (e :: es)) (hn : x ≠ "__name__" := by decide) (hdb : (x == ("__debug__" : Str)) = false := by decide)
    (he : starEach (e :: es) X.env = (false, eval e X.env) :: starEach es X.env := by rfl) (hpl : (backTo pos (starEach es X.env)).any (·.1) = false := by rfl) : JE G X (eApp o ms) (.Call (.Name x p) (e :: es) [] pos) := fun U t => by
  obtain ⟨r, h1, h2⟩ := hc
  exact (pe_callTy h1 hg hm hv (ha U t) hn hdb he hpl).imp fun σ H Q h => app_red h2 h
theorem ws1 {ι : Io} {H : Hp} {w : W} {vs : List V} (r : RepWs G ι H [w] vs) : ∃ v, vs = [v] ∧ RepW G ι H w v := by
  cases r with
  | cons a b =>
    cases b
    exact ⟨_, rfl, a⟩
theorem ws2 {ι : Io} {H : Hp} {w w' : W} {vs : List V} (r : RepWs G ι H [w, w'] vs) : ∃ v v', vs = [v, v'] ∧ RepW G ι H w v ∧ RepW G ι H w' v' := by
  cases r with
  | cons a b =>
    obtain ⟨v', e, b⟩ := ws1 b
    exact ⟨_, v', by rw [e], a, b⟩
def absO : OpN := fun xs _ => match xs with
  | [.d (.int i)] => some (.d (.int (if i < 0 then -i else i)))
  | _ => none
theorem cs_abs : CallS G X (.builtin "abs") absO := ⟨_, call_abs, fun ι h H xs z vs Q r rv e k => by
  unfold absO at e
  split at e
  · cases e
    obtain ⟨v, rfl, a⟩ := ws1 rv
    cases a
    exact ⟨_, rfl, okP.here k r (.int _)⟩
  · cases e⟩
def minO : OpN := fun xs _ => match xs with
  | [.d (.int i), .d (.int j)] => some (.d (.int (if j < i then j else i)))
  | _ => none
theorem cs_min (hc : X.calm = true) : CallS G X (.builtin "min") minO := ⟨_, call_min2 hc, fun ι h H xs z vs Q r rv e k => by
  unfold minO at e
  split at e
  · cases e
    obtain ⟨v, v', rfl, a, b⟩ := ws2 rv
    cases a
    cases b
    exact ⟨_, _, rfl, okP.here k r (.int _)⟩
  · cases e⟩
def intO : OpN := fun xs _ => match xs with
  | [.d (.int i)] => some (.d (.int i))
  | _ => none
theorem cs_int : CallS G X (.type "int") intO := ⟨_, call_int1, fun ι h H xs z vs Q r rv e k => by
  unfold intO at e
  split at e
  · cases e
    obtain ⟨v, rfl, a⟩ := ws1 rv
    cases a
    exact .inl ⟨_, rfl, okP.here k r (.int _)⟩
  · cases e⟩
def lenO : OpN := fun xs h => match xs with
  | [.d (.tuple ds)] => some (.d (.int (ds.length : Nat)))
  | [.d (.str z)] => if z.length ≤ 1000000 then some (.d (.int (z.length : Nat))) else none
  | [w] => (lenL h w).map fun n => .d (.int (n : Nat))
  | _ => none
theorem cs_len (hK : X.K = G.K) : CallS G X (.builtin "len") lenO := ⟨_, CallR.or call_len_seq call_len_str, fun ι h H xs z vs Q r rv e k => by
  unfold lenO at e
  split at e
  · cases e
    obtain ⟨v, rfl, a⟩ := ws1 rv
    cases a with
    | @tup p xs _ h1 h2 =>
      rw [← h2.length] at k
      exact .inl ⟨p, xs, rfl, .inr (by rw [hK]; exact h1), okP.here k r (.int _)⟩
  · split at e
    · rename_i hl
      cases e
      obtain ⟨v, rfl, a⟩ := ws1 rv
      cases a
      exact .inr ⟨_, rfl, million hl, okP.here k r (.int _)⟩
    · cases e
  · rename_i w _ _
    cases el : lenL h w with
    | none => rw [el] at e; cases e
    | some n =>
      rw [el] at e
      cases e
      obtain ⟨v, rfl, a⟩ := ws1 rv
      obtain ⟨p, ys, rfl, q, l⟩ := lenL_of r a el
      rw [← l] at k
      exact .inl ⟨p, ys, rfl, .inl q.sq, okP.here k r (.int _)⟩
  · cases e⟩
def tupleO : OpN := fun xs h => match xs with
  | [w] => match toD h w with
    | some (.list ds) => some (.d (.tuple ds))
    | some (.tuple ds) => some (.d (.tuple ds))
    | _ => none
  | _ => none
theorem cs_tuple (hK : X.K = G.K) : CallS G X (.type "tuple") tupleO := ⟨_, call_tuple_of, fun ι h H xs z vs Q r rv e k => by
  unfold tupleO at e
  split at e
  · obtain ⟨v, rfl, a⟩ := ws1 rv
    split at e
    · rename_i ds hd
      cases e
      obtain ⟨p, ys, rfl, h1, h2⟩ := toD_list r a hd
      exact ⟨p, ys, rfl, .inl ⟨h1.sq, fun l nl => k ι _ _ (.fresh nl) (r.fresh nl) (.tup (.inl (.inl upd_same)) (RepDs.mono (Stb.fresh nl) _ _ h2))⟩⟩
    · rename_i ds hd
      cases e
      have q := toD_data a hd fun _ z => by cases z
      cases q with
      | @tup p ys _ h1 h2 => exact ⟨p, ys, rfl, .inr ⟨by rw [hK]; exact h1, okP.here k r (.tup h1 h2)⟩⟩
    · cases e
  · cases e⟩
/-- list(..), by value -/
def listO : OpN := fun xs h => match xs with
  | [w] => match toD h w with
    | some (.list ds) => some (.d (.list ds))
    | some (.tuple ds) => some (.d (.list ds))
    | _ => none
  | _ => none
def rFrzN (r : List V → Hp → VK → Prop) : List V → Hp → VK → Prop := fun vs H Q => r vs H fun v H' => ∃ a xs, v = .ref a ∧ H' a = some (.lst xs) ∧ ∀ o, Q v (upd H' a (frzO xs o))
theorem call_frz {f : Value} {r : List V → Hp → VK → Prop} (ho : CallR X f r) : CallR X f (rFrzN r) := by
  intro pins s σ H vs us Q I rv h
  refine thn (ho pins s σ H vs us _ I rv h) fun w s1 hv => ?_
  obtain ⟨z, H1, I1, r1, a, xs, e1, h1, q⟩ := hv
  obtain ⟨o, J⟩ := I1.frz h1
  exact ⟨z, _, J, r1, q o⟩
theorem cs_list (hK : X.K = G.K) : CallS G X (.type "list") listO := ⟨_, call_frz call_list_of, fun ι h H xs z vs Q r rv e k => by
  unfold listO at e
  split at e
  · obtain ⟨v, rfl, a⟩ := ws1 rv
    split at e
    · rename_i ds hd
      cases e
      obtain ⟨p, ys, rfl, h1, h2⟩ := toD_list r a hd
      refine ⟨p, ys, rfl, .inl h1.sq, fun l nl => ⟨l, _, rfl, upd_same, fun o => ?_⟩⟩
      rw [upd2]
      exact k ι _ _ (.fresh nl) (r.fresh nl) (.lst upd_same (RepDs.mono (Stb.fresh nl) _ _ h2))
    · rename_i ds hd
      cases e
      have q := toD_data a hd fun _ z => by cases z
      cases q with
      | @tup p ys _ h1 h2 =>
        refine ⟨p, ys, rfl, .inr (by rw [hK]; exact h1), fun l nl => ⟨l, _, rfl, upd_same, fun o => ?_⟩⟩
        rw [upd2]
        exact k ι _ _ (.fresh nl) (r.fresh nl) (.lst upd_same (RepDs.mono (Stb.fresh nl) _ _ h2))
    · cases e
  · cases e⟩
def allBl : List PyData → Option (List Bool)
  | [] => some []
  | .bool b :: ds => (allBl ds).map (b :: ·)
  | _ :: _ => none
theorem allBl_rep {K : PySem.W.Frag} {H : Hp} : ∀ {ds : List PyData} {bs : List Bool} {vs : List V}, allBl ds = some bs → RepDs K H vs ds → vs = bs.map V.bl
  | [], _, _, e, r => by cases e; cases r; rfl
  | .bool b :: ds, _, _, e, r => by
    cases r with
    | cons r1 r2 =>
      cases q : allBl ds with
      | none => simp [allBl, q] at e
      | some bs =>
        simp [allBl, q] at e
        subst e
        cases r1
        rw [allBl_rep q r2]
        rfl
  | .none :: _, _, _, e, _ => by simp [allBl] at e
  | .int _ :: _, _, _, e, _ => by simp [allBl] at e
  | .str _ :: _, _, _, e, _ => by simp [allBl] at e
  | .list _ :: _, _, _, e, _ => by simp [allBl] at e
  | .tuple _ :: _, _, _, e, _ => by simp [allBl] at e
  | .dict _ :: _, _, _, e, _ => by simp [allBl] at e
def allO : OpN := fun xs h => match xs with
  | [w] => match toD h w with
    | some (.list ds) => (allBl ds).map fun bs => .d (.bool (bs.all (fun b => b)))
    | _ => none
  | _ => none
theorem cs_all (hK : X.K = G.K) (hc : X.calm = true) : CallS G X (.builtin "all") allO := ⟨_, cr_all hc, fun ι h H xs z vs Q r rv e k => by
  unfold allO at e
  split at e
  · obtain ⟨v, rfl, a⟩ := ws1 rv
    split at e
    · rename_i ds hd
      cases eb : allBl ds with
      | none => rw [eb] at e; cases e
      | some bs =>
        rw [eb] at e
        cases e
        obtain ⟨p, ys, rfl, h1, h2⟩ := toD_list r a hd
        have := allBl_rep eb h2
        subst this
        exact ⟨p, bs, rfl, h1.sq, okP.here k r (.bl _)⟩
    · cases e
  · cases e⟩
def anyO : OpN := fun xs h => match xs with
  | [w] => match toD h w with
    | some (.list ds) => (allBl ds).map fun bs => .d (.bool (bs.any (fun b => b)))
    | _ => none
  | _ => none
theorem cs_any (hK : X.K = G.K) (hc : X.calm = true) : CallS G X (.builtin "any") anyO := ⟨_, cr_any hc, fun ι h H xs z vs Q r rv e k => by
  unfold anyO at e
  split at e
  · obtain ⟨v, rfl, a⟩ := ws1 rv
    split at e
    · rename_i ds hd
      cases eb : allBl ds with
      | none => rw [eb] at e; cases e
      | some bs =>
        rw [eb] at e
        cases e
        obtain ⟨p, ys, rfl, h1, h2⟩ := toD_list r a hd
        have := allBl_rep eb h2
        subst this
        exact ⟨p, bs, rfl, h1.sq, okP.here k r (.bl _)⟩
    · cases e
  · cases e⟩
end

/-! ### isinstance -/
/-- a type: a built-in one, an own class of instances, an own class of errors -/
inductive Tn where
  | b (s : String)
  | o (c : String)
  | e (c : String)
deriving DecidableEq
def typD : PyData → String
  | .none => "NoneType"
  | .bool _ => "bool"
  | .int _ => "int"
  | .str _ => "str"
  | .list _ => "list"
  | .tuple _ => "tuple"
  | .dict _ => "dict"
def typW (h : AH) : W → Option Tn
  | .d x => some (.b (typD x))
  | .ref i => match h.f i with
    | some (.lst _) => some (.b "list")
    | some (.dct _) => some (.b "dict")
    | some (.ins c _) => some (.o c)
    | none => none
  | .exc c fs => some (.e c)
  | .clos _ => some (.b "list")
  | .clo _ => none
def basics : List String := ["NoneType", "bool", "int", "str", "list", "tuple", "dict"]
def subB (a t : String) : Option Bool := if a = t then some true else if a = "bool" ∧ t = "int" then some true else if a ∈ basics ∧ t ∈ basics then some false else none
theorem subB_kit : basics.all (fun a => basics.all fun t => decide (kitB a t = subB a t)) = true := by decide +kernel
theorem typD_basic (x : PyData) : typD x ∈ basics := by cases x <;> simp [typD, basics]
/-- isinstance(x, T): the answers by the type of x -/
structure IsiOk (G : Gd) (X : Cx) (u : Value) (f : Tn → Option Bool) : Prop where
  b : ∀ s r, s ∈ basics → f (.b s) = some r → PySem.W.kitOne X.K (.type s) u = some r
  o : ∀ c r, f (.o c) = some r → ∃ C, G.mg (Str.ofString c) = some (.ref C) ∧ PySem.W.kitOne X.K (.ref C) u = some r ∧ C8.InsC X.K C
  e : ∀ c r, f (.e c) = some r → ∃ C, G.mg (Str.ofString c) = some (.ref C) ∧ PySem.W.kitOne X.K (.ref C) u = some r ∧ ExcC X.K C
def isiO (f : Tn → Option Bool) : Op1 := fun x h => ((typW h x).bind f).map bO
def Kitt (X : Cx) (x : V) (H : Hp) (t : Value) : Prop := ∀ (pins : List (Addr × Obj)) (s : Shared) (σ : L2.St) (u : Value), Inv X pins σ H s → RelV x u → ∃ P : Heap → Prop, PySem.W.KitX X.K u t P ∧ P s.heap ∧ u ≠ .builtin "__main__.__loader__#opaque"
def rIsiK (X : Cx) : List V → Hp → VK → Prop := fun xs H Q => ∃ (x c : V) (t u : Value) (b : Bool), xs = [x, c] ∧ ClsV c u ∧ Kitt X x H t ∧ PySem.W.kitOne X.K t u = some b ∧ Q (.bl b) H
section
variable {G : Gd} {X : Cx} {pos p p2 : Pos} {a : Expr} {m : SemE}
theorem call_isK : CallR X (.builtin "isinstance") (rIsiK X) := by
  intro pins s σ H xs us Q I r h
  obtain ⟨x, c, t, u, b, rfl, k, ty, e, q⟩ := h
  obtain ⟨u1, u2, rfl, r1, r2⟩ := vals2 r
  have e2 := k.eq r2
  subst e2
  obtain ⟨P, Z, pp, hx⟩ := ty pins s σ u1 I r1
  exact PySem.W.kia_one Z I.kIn pp e hx fun tk => ⟨.bl b, H, I.tok tk, rfl, q⟩
theorem Kitt.of {x : V} {H : Hp} {t : Value} (h : TyX X.K H x t) : Kitt X x H t := fun pins s σ u I r => kit_of I r h
theorem typW_kit {ι : Io} {h : AH} {H : Hp} {x : W} {v : V} {t : Tn} {u : Value} {f : Tn → Option Bool} {b : Bool} (hK : X.K = G.K) (ok : IsiOk G X u f) (r : RlH G ι h H) (rx : RepW G ι H x v) (e : typW h x = some t) (ef : f t = some b) : ∃ tv, Kitt X v H tv ∧ PySem.W.kitOne X.K tv u = some b := by
  cases x with
  | d y =>
    cases (Option.some.inj e)
    refine ⟨_, ?_, ok.b _ _ (typD_basic y) ef⟩
    cases rx with
    | non => exact .of (.base .non)
    | bl b => exact .of (.base (.bl b))
    | int i => exact .of (.base (.int i))
    | str z => exact .of (.base (.str z))
    | lst h1 h2 => exact .of (.base (.frz h1))
    | tup h1 h2 =>
      rcases h1 with (h1 | ⟨ob, h1⟩) | ⟨ob, its, n, h1, h2, _⟩
      · exact .of (.base (.tup h1))
      · exact .of (.fTuple h1)
      · exact .of (.kTuple (by rw [hK]; exact h1) h2)
    | dct h1 => exact .of (.fDict h1)
  | ref i =>
    obtain ⟨a, hi, rfl⟩ := rx
    simp only [typW] at e
    split at e
    · rename_i ws hf
      cases e
      obtain ⟨c, hc, vs, h1, _⟩ := r.ob i _ hf
      rw [hi] at hc
      cases hc
      exact ⟨_, .of (.base (.lst h1)), ok.b _ _ (by decide) ef⟩
    · rename_i kvs hf
      cases e
      obtain ⟨c, hc, _, _, _, rs, h1, _⟩ := r.ob i _ hf
      rw [hi] at hc
      cases hc
      refine ⟨_, fun pins s σ u I rv => ?_, ok.b _ _ (by decide) ef⟩
      cases rv
      obtain ⟨o, ep, e1, e2, _⟩ := dx_obj I h1
      exact ⟨_, PySem.W.kitx_dict, ⟨o, e1, e2.1⟩, fun z => nomatch z⟩
    · rename_i c fs hf
      cases e
      obtain ⟨c', hc, C, dx, fvs, g1, h1, _⟩ := r.ob i _ hf
      rw [hi] at hc
      cases hc
      obtain ⟨C', g2, k, F⟩ := ok.o _ _ ef
      rw [g1] at g2
      cases g2
      exact ⟨_, .of (.base (.ins h1 F.cl F.ha F.hn F.htk F.hm)), k⟩
    · cases e
  | exc c fs =>
    cases (Option.some.inj e)
    obtain ⟨a, C, o, vs, rfl, g1, h1, h2, h3, h4, _⟩ := rx
    obtain ⟨C', g2, k, F⟩ := ok.e _ _ ef
    rw [g1] at g2
    cases g2
    refine ⟨_, fun pins s σ u I rv => ?_, k⟩
    cases rv
    obtain ⟨e1, _⟩ := I.hok a _ h1
    refine ⟨_, PySem.W.handS_kitx_exc (ox := o) F.hg F.hk F.hs F.hd F.ha F.hn F.ht F.hm, ?_, fun z => nomatch z⟩
    obtain ⟨oc, od, oda, osl⟩ := o
    dsimp only at h2 h3 h4
    subst h2 h3 h4
    exact ⟨e1, rfl, rfl, trivial⟩
  | clo k => cases e
  | clos ks =>
    cases (Option.some.inj e)
    obtain ⟨a, o, vs, rfl, h1, _⟩ := rx
    exact ⟨_, .of (.base (.frz h1)), ok.b _ _ (by decide) ef⟩
theorem isi_red {U : WX} {σ : L2.St} {H : Hp} {Q : VK} {c : V} {u : Value} {f : Tn → Option Bool} (hK : X.K = G.K) (ok : IsiOk G X u f) (hc : ClsV c u) (h : rdE G U (eUn (isiO f) m) σ H Q) : tCB (rIsiK X) (tCons (rdE G U m) (tCons (L2.tC c) tNil)) σ H Q := by
  refine rd_bind (k := fun x ρ h1 => .ofOpt (isiO f x h1) h1) h fun ι ι1 ρ x h1 v H1 e1 r1 re1 v1 m1 => ?_
  obtain ⟨z, ez, k⟩ := to_ofOpt m1
  unfold isiO at ez
  cases et : typW h1 x with
  | none => rw [et] at ez; cases ez
  | some t =>
    rw [et] at ez
    have ez : (f t).map bO = some z := ez
    cases ef : f t with
    | none => rw [ef] at ez; cases ez
    | some b =>
      rw [ef] at ez
      cases ez
      obtain ⟨tv, k1, k2⟩ := typW_kit hK ok r1 v1 et ef
      exact ⟨v, c, tv, u, b, rfl, hc, k1, k2, okP.here k r1 (.bl b)⟩
theorem je_isiB {T : String} {x : Str} {f : Tn → Option Bool} (hK : X.K = G.K) (ok : IsiOk G X (.type T) f) (hg : Gl X "isinstance") (hm : X.mg "isinstance" = none) (hgx : Gl X x) (hmx : X.mg x = none) (hv : bootBuiltins x = some (.type T)) (ha : JE G X m a) (hnx : x ≠ "__name__" := by decide) (hdx : (x == ("__debug__" : Str)) = false := by decide)
    (he : starEach [a, .Name x p2] X.env = (false, eval a X.env) :: starEach [.Name x p2] X.env := by rfl) (he2 : starEach [.Name x p2] X.env = [(false, eval (.Name x p2) X.env)] := by rfl) (hpl : (backTo pos (starEach [.Name x p2] X.env)).any (·.1) = false := by rfl) : JE G X (eUn (isiO f) m) (.Call (.Name "isinstance" p) [a, .Name x p2] [] pos) := fun U t =>
  (pe_callB call_isK hg hm boot_isinstance (pa_cons (ha U t) (pa_cons (pe_bltn (v := .ty T) hgx hmx hv rfl hnx hdx) pa_nil he2) he) (he := he) (hpl := hpl)).imp fun σ H Q h => isi_red hK ok (.ty T) h
theorem je_isiC {x : String} {C : Addr} {f : Tn → Option Bool} (hK : X.K = G.K) (ok : IsiOk G X (.ref C) f) (hg : Gl X "isinstance") (hm : X.mg "isinstance" = none) (hgx : Gl X (Str.ofString x)) (hmx : X.mg (Str.ofString x) = some (.ref C)) (ha : JE G X m a) (hdx : (Str.ofString x == ("__debug__" : Str)) = false := by decide)
    (he : starEach [a, .Name (Str.ofString x) p2] X.env = (false, eval a X.env) :: starEach [.Name (Str.ofString x) p2] X.env := by rfl) (he2 : starEach [.Name (Str.ofString x) p2] X.env = [(false, eval (.Name (Str.ofString x) p2) X.env)] := by rfl) (hpl : (backTo pos (starEach [.Name (Str.ofString x) p2] X.env)).any (·.1) = false := by rfl) : JE G X (eUn (isiO f) m) (.Call (.Name "isinstance" p) [a, .Name (Str.ofString x) p2] [] pos) := fun U t =>
  (pe_callB call_isK hg hm boot_isinstance (pa_cons (ha U t) (pa_cons (pe_glob (v := .ref C) hgx hmx rfl hdx) pa_nil he2) he) (he := he) (hpl := hpl)).imp fun σ H Q h => isi_red hK ok (.own C) h
end
end Q

set_option Elab.async false
set_option maxRecDepth 100000
set_option linter.all false
set_option autoImplicit false
/-! QP: assignments to tuples of names, methods of lists, displays of dicts, comprehensions into lists of the heap. -/
namespace Q
open PySem PySem.Spec PyProof.Rows L2 LamX

section
variable {G : Gd} {X : Cx} {pos apos : Pos} {a b c e o : Expr} {es : List Expr} {m mo : SemE} {ms : SemA}
theorem rdSA_bind {U : WX} {D : Ends} {σ : L2.St} {H : Hp} {k : List W → Env' → AH → OutS} {R : List V → Hp → Prop} (h : rdS G U (fun ρ h => (ms ρ h).st fun x h1 => k x ρ h1) D σ H)
    (hk : ∀ (ι1 : Io) (ρ : Env') (x : List W) (h1 : AH) (v : List V) (H1 : Hp), RlH G ι1 h1 H1 → RlE G ι1 ρ σ H1 → RepWs G ι1 H1 x v → stP G ι1 H1 U D (k x ρ h1) → R v H1) : rdA G U ms σ H R := by
  obtain ⟨ι, ρ, h0, rh, re, q⟩ := h
  have q := st_to (σ := σ) q
  exact ⟨ι, ρ, h0, rh, re, Out.to_mono q (fun x h1 z ι1 v H1 e1 r1 v1 => hk ι1 ρ x h1 v H1 r1 (re.mono e1) v1 (z.up e1)) fun _ _ _ z => z⟩
/-! ### a, b = x, y -/
def sPar (i j : Nat) (ms : SemA) : SemS := fun ρ h => (ms ρ h).st fun xs h1 => match xs with
  | [x, y] => .nx ((ρ.set i (some x)).set j (some y)) h1
  | _ => .bad
theorem js_par {i j : Nat} {x y : Str} {px py pt : Pos} {kt k2 : Nat} {pt2 : Pos} (hc : X.calm = true) (hN : X.N.Nodup) (hi : X.N[i]? = some x) (hj : X.N[j]? = some y) (hij : i ≠ j) (hx : X.env.scope.names.lookup x = some .local) (hy : X.env.scope.names.lookup y = some .local) (ha : JA G X ms [a, b])
    (hw : swappedStores [.Tuple [.Name x px, .Name y py] kt pt] (.Tuple [a, b] k2 pt2) X.env = pure (some [x, y])) (hs : swapsWithSole [.Tuple [.Name x px, .Name y py] kt pt] (.Tuple [a, b] k2 pt2) pos.line X.env = pure false := by rfl) :
    JS G X (sPar i j ms) (.Assign [.Tuple [.Name x px, .Name y py] kt pt] (.Tuple [a, b] k2 pt2) pos) := fun U t => (ps_par hc hN hi hj hij hx hy (ha U t) hw hs).imp fun D σ H h => by
  refine rdSA_bind (k := fun xs ρ h1 => match xs with
    | [x, y] => .nx ((ρ.set i (some x)).set j (some y)) h1
    | _ => .bad) h fun ι1 ρ xs h1 vs H1 r1 re1 v1 q => ?_
  split at q
  · obtain ⟨v, v', rfl, p1, p2⟩ := ws2 v1
    exact ⟨v, v', rfl, q ι1 _ H1 .refl r1 ((re1.set p1).set p2)⟩
  · exact q.elim
/-! ### target = value, in general -/
def sAsg (g : SemG) (m : SemE) : SemS := fun ρ h => (m ρ h).st fun x h1 => match g x ρ with
  | some ρ' => .nx ρ' h1
  | none => .bad
theorem js_asg {g : SemG} {sl : List Nat} {tg : Expr} (ha : JE G X m e) (hg : JG G X g sl tg) (hs : swapsWithSole [tg] e pos.line X.env = pure false := by rfl) (hw : swappedStores [tg] e X.env = pure none := by rfl)
    (h1 : (assignEach [tg] X.env).map (·.2) = [assign tg X.env] := by rfl) : JS G X (sAsg g m) (.Assign [tg] e pos) := fun U t => by
  obtain ⟨r, pg, kg⟩ := hg
  refine (ps_asg (ha U t) pg hs hw h1).imp fun D σ H h => ?_
  refine rdS_bind (k := fun x ρ h1 => match g x ρ with
    | some ρ' => .nx ρ' h1
    | none => .bad) h fun ι1 ρ x h1 v H1 r1 re1 v1 q => ?_
  split at q
  · rename_i ρ' eg
    exact kg ι1 H1 x v ρ ρ' σ _ re1 v1 eg fun σ' re' _ => q ι1 σ' H1 .refl r1 re'
  · exact q.elim
/-! ### methods of lists -/
def lstAt (h : AH) (x : W) : Option (Nat × List W) := match x with
  | .ref i => match h.f i with
    | some (.lst ws) => some (i, ws)
    | _ => none
  | _ => none
theorem lstAt_of {h : AH} {x : W} {i : Nat} {ws : List W} (e : lstAt h x = some (i, ws)) : x = .ref i ∧ h.f i = some (.lst ws) := by
  cases x with
  | ref j =>
    simp only [lstAt] at e
    split at e
    · rename_i hj
      cases e
      exact ⟨rfl, hj⟩
    · cases e
  | d _ => cases e
  | exc _ _ => cases e
  | clo _ => cases e
  | clos _ => cases e
abbrev OpM := Nat → List W → List W → AH → Option (W × AH)
/-- l.m(..), l a list of the heap -/
def eMt (f : OpM) (mo : SemE) (ms : SemA) : SemE := fun ρ h => (mo ρ h).bind fun x h1 => match lstAt h1 x with
  | some _ => (ms ρ h1).bind fun xs h2 => match lstAt h2 x with
    | some (i, ws) => match f i ws xs h2 with
      | some (z, h3) => .ok z h3
      | none => .bad
    | none => .bad
  | none => .bad
def MtS (G : Gd) (X : Cx) (id : String) (f : OpM) : Prop := ∃ r : V → List V → Hp → VK → Prop, MtR X id r ∧ ∀ (ι : Io) (h : AH) (H : Hp) (i : Nat) (p : Addr) (ws : List W) (us : List V) (xs : List W) (vs : List V) (z : W) (h' : AH) (Q : VK), RlH G ι h H → ι i = some p → h.f i = some (.lst ws) → H p = some (.lst us) → RepWs G.bare ι H ws us → RepWs G ι H xs vs →
  f i ws xs h = some (z, h') → okP G ι H Q z h' → r (.ref p) vs H Q
theorem mt_red {U : WX} {f : OpM} {r : V → List V → Hp → VK → Prop} {σ : L2.St} {H : Hp} {Q : VK} {t : TA}
    (hr : ∀ (ι : Io) (h : AH) (H : Hp) (i : Nat) (p : Addr) (ws : List W) (us : List V) (xs : List W) (vs : List V) (z : W) (h' : AH) (Q : VK), RlH G ι h H → ι i = some p → h.f i = some (.lst ws) → H p = some (.lst us) → RepWs G.bare ι H ws us → RepWs G ι H xs vs → f i ws xs h = some (z, h') → okP G ι H Q z h' → r (.ref p) vs H Q)
    (h : rdE G U (eMt f mo ms) σ H Q) (ht : ∀ (H1 : Hp) (R : List V → Hp → Prop), rdA G U ms σ H1 R → t σ H1 R) : tBM X.K "list" r (rdE G U mo) t σ H Q := by
  refine rd_bind (k := fun x ρ h1 => match lstAt h1 x with
    | some _ => (ms ρ h1).bind fun xs h2 => match lstAt h2 x with
      | some (i, ws) => match f i ws xs h2 with
        | some (z, h3) => .ok z h3
        | none => .bad
      | none => .bad
    | none => .bad) h fun ι ι1 ρ x h1 v H1 e1 r1 re1 v1 m1 => ?_
  split at m1
  case h_2 => exact m1.elim
  rename_i q hq
  obtain ⟨i, ws⟩ := q
  obtain ⟨rfl, hi⟩ := lstAt_of hq
  obtain ⟨p, hp, rfl⟩ := v1
  obtain ⟨p', hp', us, hu, _⟩ := r1.ob i _ hi
  rw [hp] at hp'
  cases hp'
  refine ⟨.inl ⟨rfl, us, .inl (.inl hu)⟩, ht H1 _ ?_⟩
  rw [to_bind] at m1
  refine ⟨ι1, ρ, h1, r1, re1, Out.to_mono m1 (fun xs h2 z ι2 vs H2 e2 r2 v2 => ?_) fun _ _ _ z => z⟩
  split at z
  case h_2 => exact z.elim
  rename_i j ws2 hq2
  obtain ⟨e3, hi2⟩ := lstAt_of hq2
  cases e3
  split at z
  case h_2 => exact z.elim
  rename_i w h3 ef
  have hp2 := e2.up i p hp
  obtain ⟨p', hp', us2, hu2, rw2⟩ := r2.ob i _ hi2
  rw [hp2] at hp'
  cases hp'
  exact hr ι2 h2 H2 i p ws2 us2 xs vs w h3 Q r2 hp2 hi2 hu2 rw2 v2 ef (okP.up e2 z)
theorem je_mt {id : String} {name : Str} {f : OpM} (slot : Slot "list" name id) (hty : typeOf (.builtin id) = pure (.type "method_descriptor")) (hm : MtS G X id f) (ho : JE G X mo o) (ha : JA G X ms (e :: es))
    (hbase : attributeBase o name X.env (eval o X.env) = eval o X.env := by rfl)
    (hfew : ((backTo pos (starEach (e :: es) X.env)).all (fun x => !x.1) && (backToKw pos (keywordEach [] X.env)).all (fun x => x.1.isSome)
      && decide ((e :: es).length + ([] : List Keyword).length + (if ([] : List Keyword).isEmpty then 0 else 1) < 30)) = true := by rfl)
    (hline : (apos.endLine == pos.line) = true := by rfl) (hs : starEach (e :: es) X.env = (false, eval e X.env) :: starEach es X.env := by rfl) (hplain : (backTo pos (starEach es X.env)).any (·.1) = false := by rfl) :
    JE G X (eMt f mo ms) (.Call (.Attribute o name apos) (e :: es) [] pos) := fun U t => by
  obtain ⟨r, h1, h2⟩ := hm
  exact (pe_bm PySem.F.plainAttrs_list slot hty h1 (ho U t) (ha U t) hbase hfew hline hs hplain).imp fun σ H Q h => mt_red h2 h fun _ _ z => z
theorem je_mt0 {id : String} {name : Str} {f : OpM} (slot : Slot "list" name id) (hty : typeOf (.builtin id) = pure (.type "method_descriptor")) (hm : MtS G X id f) (ho : JE G X mo o)
    (hbase : attributeBase o name X.env (eval o X.env) = eval o X.env := by rfl) (hline : (apos.endLine == pos.line) = true := by rfl) : JE G X (eMt f mo aNil) (.Call (.Attribute o name apos) [] [] pos) := fun U t => by
  obtain ⟨r, h1, h2⟩ := hm
  exact (pe_bm0 PySem.F.plainAttrs_list slot hty h1 (ho U t) hbase hline).imp fun σ H Q h => mt_red (t := tNil) h2 h fun H1 R ⟨ι, ρ, h0, rh, re, q⟩ => q ι [] H1 .refl rh .nil
/-- the list at i is rewritten -/
theorem lst_write {ι : Io} {h : AH} {H : Hp} {i : Nat} {p : Addr} {us us' : List V} {ws' : List W} {z : W} {v : V} {Q : VK} (r : RlH G ι h H) (hp : ι i = some p) (hu : H p = some (.lst us)) (rw' : RepWs G.bare ι H ws' us') (rv : RepW G ι H z v) (k : okP G ι H Q z (h.set i (.lst ws'))) : Q v (upd H p (.lst us')) := by
  have lo : Loose H p := loose_lst hu
  have x : Ext ι H ι (upd H p (.lst us')) := .write hp lo
  exact k ι v _ x (r.write hp lo ⟨us', upd_same, rw'.mono x⟩) (rv.mono x)
theorem RepWs.app {ι : Io} {H : Hp} {ws ws' : List W} {us us' : List V} (h : RepWs G ι H ws us) (h' : RepWs G ι H ws' us') : RepWs G ι H (ws ++ ws') (us ++ us') := by
  induction h with
  | nil => exact h'
  | cons r _ ih => exact .cons r ih
theorem RepWs.dropLast {ι : Io} {H : Hp} {ws : List W} {us : List V} (h : RepWs G ι H ws us) : RepWs G ι H ws.dropLast us.dropLast := by
  induction h with
  | nil => exact .nil
  | cons r t ih =>
    cases t with
    | nil => exact .nil
    | cons r2 t2 => exact .cons r ih
theorem RepWs.erase {ι : Io} {H : Hp} {ws : List W} {us : List V} (h : RepWs G ι H ws us) (k : Nat) : RepWs G ι H (ws.eraseIdx k) (us.eraseIdx k) := by
  induction h generalizing k with
  | nil => exact .nil
  | cons r t ih =>
    cases k with
    | zero => exact t
    | succ k => exact .cons r (ih k)
def appendM : OpM := fun i ws xs h => match xs with
  | [y] => if y.flat = true ∧ ws.length < 1000000 then some (.d .none, h.set i (.lst (ws ++ [y]))) else none
  | _ => none
theorem ms_append : MtS G X "list.append" appendM := ⟨_, mt_append, fun ι h H i p ws us xs vs z h' Q r hp hi hu rw' rv e k => by
  unfold appendM at e
  split at e
  · rename_i y
    split at e
    · rename_i ok
      cases e
      obtain ⟨v, rfl, q⟩ := ws1 rv
      exact ⟨p, us, v, rfl, rfl, hu, by rw [← rw'.length, sizeLine_eq]; omega, lst_write r hp hu (rw'.app (.cons (q.down ok.1) .nil)) (show RepW G ι H (.d .none) .non from .non) k⟩
    · cases e
  · cases e⟩
def popM : OpM := fun i ws xs h => match xs with
  | [] => (ws[ws.length - 1]?).map fun y => (y, h.set i (.lst ws.dropLast))
  | _ => none
theorem ms_pop : MtS G X "list.pop" popM := ⟨_, mt_pop, fun ι h H i p ws us xs vs z h' Q r hp hi hu rw' rv e k => by
  unfold popM at e
  split at e
  · cases ey : ws[ws.length - 1]? with
    | none => rw [ey] at e; cases e
    | some y =>
      rw [ey] at e
      cases e
      cases rv
      obtain ⟨v, e1, e2⟩ := Paired.get1 rw' ey
      exact ⟨p, us, v, rfl, rfl, hu, by rw [← rw'.length]; exact e1, lst_write r hp hu (RepWs.dropLast rw') e2.up k⟩
  · cases e⟩
theorem seq_at {j : Int} {n : Nat} (h0 : 0 ≤ j) (hl : j.toNat < n) : seqIndex? j n = some j.toNat := by
  unfold seqIndex?
  have h1 : ¬ j < 0 := by omega
  have h2 : j < (n : Int) := by omega
  simp [h1, h0, h2]
def popAtM : OpM := fun i ws xs h => match xs with
  | [.d (.int j)] => if j = 0 ∨ (0 ≤ j ∧ j < 1000000) then (ws[j.toNat]?).map fun y => (y, h.set i (.lst (ws.eraseIdx j.toNat))) else none
  | _ => none
theorem ms_popAt : MtS G X "list.pop" popAtM := ⟨_, mt_popAt, fun ι h H i p ws us xs vs z h' Q r hp hi hu rw' rv e k => by
  unfold popAtM at e
  split at e
  · rename_i j
    split at e
    · rename_i hj
      have j0 : 0 ≤ j ∧ j < 1000000 := by omega
      cases ey : ws[j.toNat]? with
      | none => rw [ey] at e; cases e
      | some y =>
        rw [ey] at e
        cases e
        obtain ⟨v0, rfl, q⟩ := ws1 rv
        cases q
        obtain ⟨v, e1, e2⟩ := Paired.get1 rw' ey
        have hl : j.toNat < us.length := (List.getElem?_eq_some_iff.mp e1).1
        exact ⟨p, us, j, j.toNat, v, rfl, rfl, hu, by omega, by omega, seq_at j0.1 hl, e1, lst_write r hp hu (RepWs.erase rw' _) e2.up k⟩
    · cases e
  · cases e⟩
/-! l.extend(..) -/
theorem ext_tup (l : Addr) (items : Array Value) (n : Nat) (b : Addr) (dd : Option Addr) (sl : Array (Option Value)) (items2 : Array Value) (n2 : Nat) (hs0 : ¬(!items.isEmpty && Builtin.List.listTooLong (items.size + items2.size)) = true) (hs1 : items.size ≤ sizeLine) (hs2 : items.size + items2.size ≤ sizeLine + 1) :
    Meets (Builtin.«list.extend» ⟨[.ref l, .ref b], []⟩) (fun _ R s => s.heap.get? l = some { cls := .type "list", dict := none, data := .seq items n, slots := #[] } ∧ s.heap.get? b = some { cls := .type "tuple", dict := dd, data := .seq items2 n2, slots := sl } ∧
      R (.ok (.ret Value.none)) { s with heap := s.heap.update l (Obj.mapSeq fun x => x ++ items2), toks := s.toks }) :=
  .of_wp fun prog w A R s h => by
    obtain ⟨hp, g, d, tk, os⟩ := s
    obtain ⟨hl, hb, h⟩ := h
    have f1 := AutoSeq1.idx_int
    have f2 := AutoSeq1.sub_tuple_tuple
    have f3 := AutoSeq1.sub_list_list
    have f4 := AutoSeq1.sub_tuple_list
    have f5 := AutoSeq1.sub_list_tuple
    have hz' : (items ++ items2).size ≤ sizeLine + 1 := by
      rw [Array.size_append]
      exact hs2
    wp_walk using (PySem.wpAny_updateSeq hl rfl (hz := hs1) (_hz' := hz')), AutoSeq1.wpAny_loadPart' hl, AutoSeq1.wpAny_loadPart' hb
    exact ⟨_, rfl, h⟩
def rExt2 (K : PySem.W.Frag) : V → List V → Hp → VK → Prop := fun x vs H Q => ∃ l b xs zs, x = .ref l ∧ vs = [.ref b] ∧ H l = some (.lst xs) ∧ (Sq2 H b zs ∨ SqT K H b zs) ∧ xs.length + zs.length ≤ sizeLine ∧ Q .non (upd H l (.lst (xs ++ zs)))
theorem mt_ext2 : MtR X "list.extend" (rExt2 X.K) := by
  intro pins s σ H x vs v us Q I rx rv h
  obtain ⟨l, b, xs, zs, rfl, rfl, hH, hB, hz, q⟩ := h
  cases rx
  obtain ⟨u, rfl, ru⟩ := rv.one
  cases ru
  obtain ⟨z, its, n, r, hl, e⟩ := I.lstM hH
  rcases hB with hB | hB
  · obtain ⟨z2, its2, n2, r2, e2⟩ := hB.obj I
    have hl2 := r2.length
    have hsz : its.toArray.size + its2.toArray.size ≤ sizeLine := by
      rw [List.size_toArray, List.size_toArray]
      omega
    have hlong : ¬ (!its.toArray.isEmpty && Builtin.List.listTooLong (its.toArray.size + its2.toArray.size)) = true := by
      rw [notLongL hsz, Bool.and_false]
      exact Bool.false_ne_true
    refine call_meets F.slot_list_extend ⟨_, e, rfl⟩ F.entry_list_extend (F.args_list_extend_2 _ _) (AutoSeq1.list_extend_list_list_0 l its.toArray n b its2.toArray n2 hlong (by rw [List.size_toArray]; omega) (by omega)) ⟨e, e2, ?_⟩
    exact ⟨.non, _, I.lset (its' := its ++ its2) hH e (by simp) (r.append r2) (by rw [List.length_append]; omega), rfl, q⟩
  · obtain ⟨its2, r2, pl, z2⟩ := I.tuple hB
    have hl2 := r2.length
    obtain ⟨⟨oc, od, dt, sl⟩, h1, h2, n2, h3⟩ := pl
    simp only at h2 h3
    subst h2 h3
    have hsz : its.toArray.size + its2.toArray.size ≤ sizeLine := by
      rw [List.size_toArray, List.size_toArray]
      omega
    have hlong : ¬ (!its.toArray.isEmpty && Builtin.List.listTooLong (its.toArray.size + its2.toArray.size)) = true := by
      rw [notLongL hsz, Bool.and_false]
      exact Bool.false_ne_true
    refine call_meets F.slot_list_extend ⟨_, e, rfl⟩ F.entry_list_extend (F.args_list_extend_2 _ _) (ext_tup l its.toArray n b od sl its2.toArray n2 hlong (by rw [List.size_toArray]; omega) (by omega)) ⟨e, h1, ?_⟩
    exact ⟨.non, _, I.lset (its' := its ++ its2) hH e (by simp) (r.append r2) (by rw [List.length_append]; omega), rfl, q⟩
def extendM : OpM := fun i ws xs h => match xs with
  | [y] => match toD h y with
    | some (.list ds) => if ws.length + ds.length ≤ 1000000 then some (.d .none, h.set i (.lst (ws ++ ds.map .d))) else none
    | some (.tuple ds) => if ws.length + ds.length ≤ 1000000 then some (.d .none, h.set i (.lst (ws ++ ds.map .d))) else none
    | _ => none
  | _ => none
theorem ms_extend (hK : X.K = G.K) : MtS G X "list.extend" extendM := ⟨_, mt_ext2, fun ι h H i p ws us xs vs z h' Q r hp hi hu rw' rv e k => by
  unfold extendM at e
  split at e
  · rename_i y
    obtain ⟨v, rfl, q⟩ := ws1 rv
    split at e
    · rename_i ds hd
      split at e
      · rename_i hl
        cases e
        obtain ⟨b, zs, rfl, h1, h2⟩ := toD_list r q hd
        exact ⟨p, b, us, zs, rfl, rfl, hu, .inl h1, million (by rw [← rw'.length, h2.length]; exact hl), lst_write r hp hu (rw'.app (rep_map h2)) (show RepW G ι H (.d .none) .non from .non) k⟩
      · cases e
    · rename_i ds hd
      split at e
      · rename_i hl
        cases e
        have q2 := toD_data q hd fun _ z => by cases z
        cases q2 with
        | @tup b zs _ h1 h2 =>
          exact ⟨p, b, us, zs, rfl, rfl, hu, .inr (by rw [hK]; exact h1), million (by rw [← rw'.length, h2.length]; exact hl), lst_write r hp hu (rw'.app (rep_map h2)) (show RepW G ι H (.d .none) .non from .non) k⟩
      · cases e
    · cases e
  · cases e⟩
end
end Q

set_option Elab.async false
set_option maxRecDepth 100000
set_option linter.all false
set_option autoImplicit false
/-! QR: displays of dicts, comprehensions into lists of the heap, name = [..], l.index(..), list(..) into the heap. -/
namespace Q
open PySem PySem.Spec PyProof.Rows L2 LamX

section
variable {G : Gd} {X : Cx} {pos apos : Pos} {a b c e o : Expr} {es : List Expr} {m mo : SemE} {ms : SemA}
/-! ### {'k': v, ..} -/
theorem pairs_of {P : Program} {w : World} {G : Gd} {ι : Io} {H : Hp} (hw : w = G.w) : ∀ {ks : List Str} {ws : List W} {vs : List V} {us : List (Value × Value)} {rs : List (Key × Value)} {es : List DictEntry}, RepWs G.bare ι H ws vs → VV ((ks.map V.str).zip vs) us → Carries (mixKind P w) us rs → Pairs (mixKind P w) es rs → (∀ e ∈ es, ∃ k, (mixKind P w).is k e.key = true ∧ e.hash = (mixKind P w).hash k) → vs.length = ks.length →
    Paired (RepKV G ι H) ((ks.zip ws).map fun p => (.str p.1, p.2)) es
  | [], _, _, us, rs, es, r, vv, c, p, hk, l => by
    cases vv
    cases rs with
    | nil =>
      cases p
      exact .nil
    | cons q rs => exact c.elim
  | k :: ks, ws, vs, us, rs, es, r, vv, c, p, hk, l => by
    cases r with
    | nil => simp at l
    | @cons w0 v0 ws vs r1 r2 =>
      cases vv with
      | @cons _ u0 _ us hu ht =>
        obtain ⟨hu1, hu2⟩ := hu
        obtain ⟨u1, u2⟩ := u0
        dsimp only at hu1 hu2
        cases rs with
        | nil => exact c.elim
        | cons q rs =>
          obtain ⟨q1, q2⟩ := q
          obtain ⟨c1, c2, c3⟩ := c
          cases p with
          | @cons e0 _ es _ p1 p2 p3 =>
            refine .cons ?_ (pairs_of hw r2 ht c3 p3 (fun e he => hk e (List.mem_cons_of_mem _ he)) (by simpa using l))
            obtain ⟨t, rfl⟩ := hu1
            obtain ⟨k2, h1, h2⟩ := hk e0 List.mem_cons_self
            have c1 : keyIs q1 (.str k t) = true := c1
            have p1 : keyIs q1 e0.key = true := p1
            rcases keyIs_shape c1 with ⟨i, t', rfl, e⟩ | ⟨x, t', rfl, e⟩
            · cases e
            · cases e
              rcases keyIs_shape p1 with ⟨i, t2, e, _⟩ | ⟨x2, t2, e, ek⟩
              · cases e
              · cases e
                have h1 : keyIs k2 e0.key = true := h1
                rw [ek] at h1
                rcases keyIs_shape h1 with ⟨i, t3, rfl, e⟩ | ⟨x3, t3, rfl, e⟩
                · cases e
                · cases e
                  exact ⟨.text k, .str k, v0, rfl, Nat.zero_le _, by rw [h2, ← hw]; rfl, .str k, ⟨t2, ek⟩, r1, by rw [p2, ← c2]; exact hu2⟩
theorem carries_strs {P : Program} {w : World} : ∀ {ks : List Str} {vs : List V} {us : List (Value × Value)}, VV ((ks.map V.str).zip vs) us → vs.length = ks.length → ∃ rs, Carries (mixKind P w) us rs ∧ rs.map (·.1) = ks.map Sum.inr
  | [], vs, us, vv, l => by
    cases vv
    exact ⟨[], True.intro, rfl⟩
  | k :: ks, [], us, vv, l => by simp at l
  | k :: ks, v :: vs, us, vv, l => by
    cases vv with
    | @cons _ u0 _ us hu ht =>
      obtain ⟨u1, u2⟩ := u0
      obtain ⟨rs, c, e⟩ := carries_strs (P := P) (w := w) ht (by simpa using l)
      obtain ⟨t, ek⟩ := hu.1
      dsimp only at ek
      subst ek
      exact ⟨(.inr k, u2) :: rs, ⟨keyIs_str k t, rfl, c⟩, by simp [e]⟩
theorem je_disp {ks : List Str} {keys : List (Option Expr)} {values : List Expr} (hw : X.w = G.w) (hj : JP G X ks ms keys values) (hk : ks.Nodup) (h0 : ks ≠ []) (h15 : ks.length ≤ 15) : JE G X (eDisp ks ms) (.Dict keys values pos) := fun U t => by
  obtain ⟨l1, l2, l3, hj⟩ := hj
  obtain ⟨trs, p1, p2⟩ := hj U pos t
  refine ⟨fun pins s σ H Q I h => ?_⟩
  have hn := I.hok.fresh (Nat.le_refl s.heap.objs.size)
  have I1 := I.laid (a := s.heap.objs.size) (o := .dK []) (h' := s.heap.push { cls := .type "dict", data := .dict #[] }) (t' := s.toks) (fun _ _ q => Heap.get?_push_of_some _ q) (Nat.le_refl _) (dk_empty s.heap I.big)
  obtain ⟨ι, ρ, h0', rh, re, q⟩ := h
  unfold eDisp at q
  rw [to_bind] at q
  have x0 : Ext ι H ι (upd H s.heap.objs.size (.dK [])) := .fresh hn
  have h' : rdA G U ms σ (upd H s.heap.objs.size (.dK [])) fun vs H2 => ∃ (ι2 : Io) (ws : List W) (h2 : AH), Ext ι (upd H s.heap.objs.size (.dK [])) ι2 H2 ∧ RlH G ι2 h2 H2 ∧ RepWs G ι2 H2 ws vs ∧ (if ws.all W.flat = true ∧ ws.length = ks.length then Out.ok (W.ref h2.n) (h2.new (.dct ((ks.zip ws).map fun p => (.str p.1, p.2)))) else .bad).to (okP G ι H Q) (erP G ι H (xk U σ)) :=
    ⟨ι, ρ, h0', rh.fresh hn, re.mono x0, Out.to_mono q (fun ws h2 z ι2 vs H2 e2 r2 v2 => ⟨ι2, ws, h2, e2, r2, v2, z⟩) fun _ _ _ z => z.up x0⟩
  refine wpAny_Dict_walk (knd := mixKind X.prog X.w) l3 (l1.trans l2.symm) (fun z => h0 (by rw [z] at l1; exact List.length_eq_zero_iff.mp l1.symm)) (by rw [l1]; exact h15) (thn (p1.run pins _ σ _ _ I1 (p2 σ _ (fun ps H2 => ∃ vs, ps = (ks.map V.str).zip vs ∧ ∃ (ι2 : Io) (ws : List W) (h2 : AH), Ext ι (upd H s.heap.objs.size (.dK [])) ι2 H2 ∧ RlH G ι2 h2 H2 ∧ RepWs G ι2 H2 ws vs ∧ (if ws.all W.flat = true ∧ ws.length = ks.length then Out.ok (W.ref h2.n) (h2.new (.dct ((ks.zip ws).map fun p => (.str p.1, p.2)))) else .bad).to (okP G ι H Q) (erP G ι H (xk U σ)))
    (by obtain ⟨ι0, ρ0, h00, r0, re0, q0⟩ := h'; exact ⟨ι0, ρ0, h00, r0, re0, Out.to_mono q0 (fun ws h2 z ι2 vs H2 e2 r2 v2 => ⟨vs, rfl, z ι2 vs H2 e2 r2 v2⟩) fun _ _ _ z => z⟩))) fun us s2 hx => ?_)
  obtain ⟨ps, H2, I2, rel, vs, rfl, ι2, ws, h2, e2, r2, v2, z⟩ := hx
  split at z
  case isFalse => exact z.elim
  rename_i ok
  have nj : ∀ j, ι j ≠ some s.heap.objs.size := rh.nj hn
  have hD : H2 s.heap.objs.size = some (.dK []) := e2.fr _ _ upd_same nj (fun ps z => by cases z)
  have nj2 : ∀ j, ι2 j ≠ some s.heap.objs.size := fun j z => by
    rcases e2.nw j _ z with q | q
    · exact nj j q
    · exact q ⟨_, upd_same, fun ps z => by cases z⟩
  have lv : vs.length = ks.length := by rw [← v2.length]; exact ok.2
  obtain ⟨rs, cr, ek⟩ := carries_strs (P := X.prog) (w := X.w) rel lv
  obtain ⟨zz, hd, vs0, r0, dd⟩ := dk_of I2.hok hD
  cases r0
  refine ⟨rs, cr, dd, fun h' dd' hs => ?_⟩
  have nd : ((([] : List (Key × Value)) ++ rs).map (·.1)).Nodup := by
    rw [List.nil_append, ek]
    exact List.Pairwise.map _ (fun a b hab z => hab (Sum.inr.inj z)) hk
  rw [merged_nodup rs [] nd, List.nil_append] at dd'
  obtain ⟨ob, es, ep, g1, g2, g3, g4, g5, g6⟩ := dd'
  have lo : Loose H2 s.heap.objs.size := ⟨fun _ z => (by rw [hD] at z; cases z), fun _ _ z => (by rw [hD] at z; cases z), fun _ z => (by rw [hD] at z; cases z), fun _ z => (by rw [hD] at z; unfold CodeO at z; cases z)⟩
  have nw : ∀ ps, DX s.heap.objs.size es.toList ≠ .tbl ps := fun ps z => by unfold DX at z; cases z
  have x2 : Ext ι H (Io.new ι2 h2.n s.heap.objs.size) (upd H2 s.heap.objs.size (DX s.heap.objs.size es.toList)) := (x0.trans e2).into r2.lt (Trk.no hn) lo nw
  have y2 : Ex0 ι2 H2 (Io.new ι2 h2.n s.heap.objs.size) (upd H2 s.heap.objs.size (DX s.heap.objs.size es.toList)) := ⟨fun i a hi => by
    have := r2.lt i a hi
    unfold Io.new
    rw [if_neg (by omega)]
    exact hi, Stb.write lo⟩
  have rp : RepO G (Io.new ι2 h2.n s.heap.objs.size) (upd H2 s.heap.objs.size (DX s.heap.objs.size es.toList)) s.heap.objs.size (.dct ((ks.zip ws).map fun p => (.str p.1, p.2))) := by
    refine ⟨hd, ?_, ?_, es.toList, upd_same, pairs_of hw ((v2.down ok.1).mono0 y2) rel cr g5 (fun e he => g4 e (by simpa using he)) lv⟩
    · rw [List.length_map, List.length_zip, ok.2, Nat.min_self, sizeLine_eq]
      omega
    · rw [List.map_map]
      have : ((fun p : PyData × W => keyD p.1) ∘ fun p : Str × W => (PyData.str p.1, p.2)) = (fun k => some (NestedKey.text k)) ∘ Prod.fst := rfl
      rw [this, ← List.map_map, List.map_fst_zip (by omega)]
      exact List.Pairwise.map _ (fun a b hab z => hab (by injection z with z; injection z)) hk
  have rr := (r2.into nj2 lo nw rp).2
  have oo : ObjOk X.prog X.w (upd H2 s.heap.objs.size (DX s.heap.objs.size es.toList)) h' s.heap.objs.size (DX s.heap.objs.size es.toList) := by
    refine ⟨⟨ob, ep, g1, g2, by rw [g3]⟩, ⟨ob, g1⟩, ?_⟩
    rintro h1 h2 ⟨o1, ep1, f1, f2, f3⟩ st
    exact ⟨o1, ep1, st _ f1, f2, f3⟩
  exact ⟨.ref s.heap.objs.size, _, d_write I2 (by rw [hD]; exact True.intro) hs ⟨ob, g1⟩ oo, rfl, z _ _ _ x2 rr ⟨_, Io.new_same, rfl⟩⟩
end
end Q

set_option Elab.async false
set_option maxRecDepth 100000
set_option linter.all false
set_option autoImplicit false
/-! QS: comprehensions into the heap, name = [..], l.index(..), list(..) into the heap. -/
namespace Q
open PySem PySem.Spec PyProof.Rows L2 LamX

section
variable {G : Gd} {X : Cx} {pos apos : Pos} {a b c e o : Expr} {es : List Expr} {m mo : SemE} {ms : SemA}
theorem tLc_of {U : WX} {mi : SemI} {g : SemG} {r : TG} {sl own : List Nat} {mt : SemT} {me : SemE} {σ : L2.St} {H : Hp} {Q : VK} {ι : Io} {ρ : Env'} {h0 : AH} (rh : RlH G ι h0 H) (re : RlE G ι ρ σ H) (hsl : ∀ i ∈ sl, i ∈ own)
    (kg : ∀ (ι : Io) (H : Hp) (x : W) (v : V) (ρ ρ' : Env') (σ : L2.St) (Q : L2.St → Hp → Prop), RlE G ι ρ σ H → RepW G ι H x v → g x ρ = some ρ' → (∀ σ', RlE G ι ρ' σ' H → Sets sl σ σ' → Q σ' H) → r v σ H Q)
    (q : (mi ρ h0).to (fun p h1 => ∃ ys h2, compL p.2 g mt me (wipR ρ own) p.1 h1 = .ok ys h2 ∧ ∀ (ι' : Io) (H' : Hp) (D : Addr) (vs : List V), Ext ι H ι' H' → RlH G ι' h2 H' → H' D = some (.lst vs) → RepWs G ι' H' ys vs → (∀ j, ι' j ≠ some D) → ¬ Trk H D → Q (.ref D) H') (erP G ι H (xk U σ))) :
    tLc (rdI G U mi) r (rdT G U0 mt) (rdE G U0 me) own σ H Q := by
  refine ⟨ι, ρ, h0, rh, re, Out.to_mono q (fun p h1 z ι1 H1 J e1 r1 jok hl D nD => ?_) fun _ _ _ z => z⟩
  obtain ⟨ws, chk⟩ := p
  obtain ⟨ys, h2, ec, z⟩ := z
  exact comp_core (U := U0) jok hl r1 (re.mono e1) hsl nD kg (fun _ _ _ _ z => z) ec fun ι' H' vs e2 r2 hD rv nj => z ι' H' D vs (e1.trans e2) r2 hD rv nj (e1.none_back nD)
/-- what a comprehension's list comes to -/
noncomputable def compO (own : List Nat) (mi : SemI) (g : SemG) (mt : SemT) (me : SemE) : SemA := fun ρ h => (mi ρ h).bind fun p h1 => match compL p.2 g mt me (wipR ρ own) p.1 h1 with
  | .ok ys h2 => .ok ys h2
  | _ => .bad
theorem compO_to {own : List Nat} {mi : SemI} {g : SemG} {mt : SemT} {me : SemE} {ρ : Env'} {h : AH} {P : List W → AH → Prop} {R} (q : (compO own mi g mt me ρ h).to P R) : (mi ρ h).to (fun p h1 => ∃ ys h2, compL p.2 g mt me (wipR ρ own) p.1 h1 = .ok ys h2 ∧ P ys h2) R := by
  unfold compO at q
  rw [to_bind] at q
  refine Out.to_mono q (fun p h1 z => ?_) fun _ _ _ z => z
  split at z
  · rename_i ys h2 e
    exact ⟨ys, h2, e, z⟩
  · exact z.elim
noncomputable def eCompH (own : List Nat) (mi : SemI) (g : SemG) (mt : SemT) (me : SemE) : SemE := fun ρ h => (compO own mi g mt me ρ h).bind fun ys h2 => if ys.all W.flat = true then .ok (.ref h2.n) (h2.new (.lst ys)) else .bad
theorem upd_id {H : Hp} {a : Addr} {u : HO} (e : H a = some u) : upd H a u = H := by
  funext b
  by_cases z : b = a
  · rw [z, upd_same, e]
  · rw [upd_ne z]
/-- a list that the abstract heap doesn't tell of comes into it -/
theorem lst_into {ι ι' : Io} {H H' : Hp} {h2 : AH} {D : Addr} {ys : List W} {vs : List V} {Q : VK} (x : Ext ι H ι' H') (r : RlH G ι' h2 H') (hD : H' D = some (.lst vs)) (rv : RepWs G ι' H' ys vs) (nj : ∀ j, ι' j ≠ some D) (nt : ¬ Trk H D) (hf : ys.all W.flat = true) (k : okP G ι H Q (.ref h2.n) (h2.new (.lst ys))) : Q (.ref D) H' := by
  have e := upd_id hD
  have lo : Loose H' D := loose_lst hD
  have no : ∀ ps, HO.lst vs ≠ .tbl ps := fun ps z => by cases z
  have x2 : Ext ι H (Io.new ι' h2.n D) (upd H' D (.lst vs)) := x.into r.lt nt lo no
  have y2 : Ex0 ι' H' (Io.new ι' h2.n D) (upd H' D (.lst vs)) := ⟨fun i a hi => by
    have := r.lt i a hi
    unfold Io.new
    rw [if_neg (by omega)]
    exact hi, Stb.write lo⟩
  have rr := (r.into nj lo no (show RepO G (Io.new ι' h2.n D) (upd H' D (.lst vs)) D (.lst ys) from ⟨vs, upd_same, (rv.down hf).mono0 y2⟩)).2
  rw [e] at x2 rr
  exact k _ _ _ x2 rr ⟨_, Io.new_same, rfl⟩
theorem compH_red {U : WX} {mi : SemI} {g : SemG} {r : TG} {sl own : List Nat} {mt : SemT} {me : SemE} {σ : L2.St} {H : Hp} {Q : VK} (hsl : ∀ i ∈ sl, i ∈ own)
    (kg : ∀ (ι : Io) (H : Hp) (x : W) (v : V) (ρ ρ' : Env') (σ : L2.St) (Q : L2.St → Hp → Prop), RlE G ι ρ σ H → RepW G ι H x v → g x ρ = some ρ' → (∀ σ', RlE G ι ρ' σ' H → Sets sl σ σ' → Q σ' H) → r v σ H Q)
    (h : rdE G U (eCompH own mi g mt me) σ H Q) : tLc (rdI G U mi) r (rdT G U0 mt) (rdE G U0 me) own σ H Q := by
  obtain ⟨ι, ρ, h0, rh, re, q⟩ := h
  unfold eCompH at q
  rw [to_bind] at q
  refine tLc_of rh re hsl kg (Out.to_mono (compO_to q) (fun p h1 ⟨ys, h2, e, z⟩ => ⟨ys, h2, e, fun ι' H' D vs x r2 hD rv nj nt => ?_⟩) fun _ _ _ z => z)
  split at z
  · rename_i hf
    exact lst_into x r2 hD rv nj nt hf z
  · exact z.elim
theorem je_compH {elt tg iter : Expr} {ifs : List Expr} {scope : Scope} {own : List (Str × Nat)} {mi : SemI} {g : SemG} {sl : List Nat} {mt : SemT} {me : SemE} (hc : X.calm = true) (hN : X.N.Nodup) (hi : JI G X mi tg iter) (ok : BlkOk X.N X.env.scope scope own) (hsl : ∀ i ∈ sl, i ∈ own.map (·.2))
    (hg : JGB G X scope g sl tg)
    (ht : ∀ (s : Shared) (H : Hp) (C : Addr) (cl : List (Str × Addr)) (fp : List Addr), JTs G (X.blk s H scope (compEnvC scope cl C X.env) fp) mt ifs)
    (he : ∀ (s : Shared) (H : Hp) (C : Addr) (cl : List (Str × Addr)) (fp : List Addr), JE G (X.blk s H scope (compEnvC scope cl C X.env) fp) me elt) (hs : ∀ x, foldedSetIterable iter X.env x = pure x := by intro _; rfl) :
    JE G X (eCompH (own.map (·.2)) mi g mt me) (.ListComp elt [⟨tg, iter, ifs, 0⟩] scope pos) := fun U t => by
  obtain ⟨r, pg, kg⟩ := hg
  exact (pe_lc hc hN (hi U t) ok pg (fun s H C cl fp => ht s H C cl fp U0 L2.takes0) (fun s H C cl fp => he s H C cl fp U0 L2.takes0) hs).imp fun σ H Q h => compH_red hsl kg h
/-! ### name = [..], on one line -/
theorem ps_frz {st : Stmt} {t : TS} (p : PS X st t) : PS X st (fun D σ H => t { D with nx := fun σ' H' => D.nx σ' H' ∨ ∃ a xs, H' a = some (.lst xs) ∧ ∀ o, D.nx σ' (upd H' a (frzO xs o)) } σ H) := ⟨fun pins s σ H D I h => thn (p.run pins s σ H _ I h) fun f s1 q => by
  cases f with
  | next =>
    obtain ⟨σ', H', I', q⟩ := q
    rcases q with q | ⟨a, xs, h1, q⟩
    · exact ⟨σ', H', I', q⟩
    · obtain ⟨o, J⟩ := I'.frz h1
      exact ⟨σ', _, J, q o⟩
  | ret v => exact q
  | brk => exact q
  | cont => exact q⟩
noncomputable def sSetLc (i : Nat) (own : List Nat) (mi : SemI) (g : SemG) (mt : SemT) (me : SemE) : SemS := fun ρ h => (compO own mi g mt me ρ h).st fun ys h2 => match allD ys with
  | some ds => .nx (ρ.set i (some (.d (.list ds)))) h2
  | none => .bad
noncomputable def sSetLcH (i : Nat) (own : List Nat) (mi : SemI) (g : SemG) (mt : SemT) (me : SemE) : SemS := fun ρ h => (compO own mi g mt me ρ h).st fun ys h2 => if ys.all W.flat = true then .nx (ρ.set i (some (.ref h2.n))) (h2.new (.lst ys)) else .bad
theorem js_setLc {i : Nat} {y : Str} {py : Pos} {elt tg iter : Expr} {ifs : List Expr} {scope : Scope} {own : List (Str × Nat)} {lpos : Pos} {mi : SemI} {g : SemG} {sl : List Nat} {mt : SemT} {me : SemE} (hc : X.calm = true) (hN : X.N.Nodup) (hy : X.N[i]? = some y) (hyl : X.env.scope.names.lookup y = some .local)
    (hsw : swapsWith (.ListComp elt [⟨tg, iter, ifs, 0⟩] scope lpos) (some (.Name y py)) pos.line X.env = pure true) (hi : JI G X mi tg iter) (ok : BlkOk X.N X.env.scope scope own) (hsl : ∀ i ∈ sl, i ∈ own.map (·.2))
    (hg : JGB G X scope g sl tg)
    (ht : ∀ (s : Shared) (H : Hp) (C : Addr) (cl : List (Str × Addr)) (fp : List Addr), JTs G (X.blk s H scope (compEnvC scope cl C X.env) fp) mt ifs)
    (he : ∀ (s : Shared) (H : Hp) (C : Addr) (cl : List (Str × Addr)) (fp : List Addr), JE G (X.blk s H scope (compEnvC scope cl C X.env) fp) me elt) (hs : ∀ x, foldedSetIterable iter X.env x = pure x := by intro _; rfl) :
    JS G X (sSetLc i (own.map (·.2)) mi g mt me) (.Assign [.Name y py] (.ListComp elt [⟨tg, iter, ifs, 0⟩] scope lpos) pos) := fun U t => by
  obtain ⟨r, pg, kg⟩ := hg
  refine (ps_frz (ps_setLc hc hN hy hyl hsw (hi U t) ok pg (fun s H C cl fp => ht s H C cl fp U0 L2.takes0) (fun s H C cl fp => he s H C cl fp U0 L2.takes0) hs)).imp fun D σ H h => ?_
  obtain ⟨ι, ρ, h0, rh, re, q⟩ := h
  have q := st_to (σ := σ) q
  refine tLc_of rh re hsl kg (Out.to_mono (compO_to q) (fun p h1 ⟨ys, h2, e, z⟩ => ⟨ys, h2, e, fun ι' H' D vs x r2 hD rv nj nt => .inr ⟨D, vs, hD, fun o => ?_⟩⟩) fun _ _ _ z => z)
  split at z
  · rename_i ds hd
    have rd := allD_rep hd rv
    have lo : Loose H' D := loose_lst hD
    have no : ∀ ps, frzO vs o ≠ .tbl ps := fun ps z => by unfold frzO at z; cases z
    have x2 : Ext ι H ι' (upd H' D (frzO vs o)) := x.after nt lo no
    exact z ι' _ _ x2 (r2.off nj lo) ((re.mono x2).set (show RepW G ι' _ (.d (.list ds)) (.ref D) from .lst upd_same (RepDs.mono (Stb.write lo) _ _ rd)))
  · exact z.elim
theorem js_setLcH {i : Nat} {y : Str} {py : Pos} {elt tg iter : Expr} {ifs : List Expr} {scope : Scope} {own : List (Str × Nat)} {lpos : Pos} {mi : SemI} {g : SemG} {sl : List Nat} {mt : SemT} {me : SemE} (hc : X.calm = true) (hN : X.N.Nodup) (hy : X.N[i]? = some y) (hyl : X.env.scope.names.lookup y = some .local)
    (hsw : swapsWith (.ListComp elt [⟨tg, iter, ifs, 0⟩] scope lpos) (some (.Name y py)) pos.line X.env = pure true) (hi : JI G X mi tg iter) (ok : BlkOk X.N X.env.scope scope own) (hsl : ∀ i ∈ sl, i ∈ own.map (·.2))
    (hg : JGB G X scope g sl tg)
    (ht : ∀ (s : Shared) (H : Hp) (C : Addr) (cl : List (Str × Addr)) (fp : List Addr), JTs G (X.blk s H scope (compEnvC scope cl C X.env) fp) mt ifs)
    (he : ∀ (s : Shared) (H : Hp) (C : Addr) (cl : List (Str × Addr)) (fp : List Addr), JE G (X.blk s H scope (compEnvC scope cl C X.env) fp) me elt) (hs : ∀ x, foldedSetIterable iter X.env x = pure x := by intro _; rfl) :
    JS G X (sSetLcH i (own.map (·.2)) mi g mt me) (.Assign [.Name y py] (.ListComp elt [⟨tg, iter, ifs, 0⟩] scope lpos) pos) := fun U t => by
  obtain ⟨r, pg, kg⟩ := hg
  refine (ps_setLc hc hN hy hyl hsw (hi U t) ok pg (fun s H C cl fp => ht s H C cl fp U0 L2.takes0) (fun s H C cl fp => he s H C cl fp U0 L2.takes0) hs).imp fun D σ H h => ?_
  obtain ⟨ι, ρ, h0, rh, re, q⟩ := h
  have q := st_to (σ := σ) q
  refine tLc_of rh re hsl kg (Out.to_mono (compO_to q) (fun p h1 ⟨ys, h2, e, z⟩ => ⟨ys, h2, e, fun ι' H' D' vs x r2 hD rv nj nt => ?_⟩) fun _ _ _ z => z)
  split at z
  · rename_i hf
    exact lst_into (G := G) (Q := fun v H' => D.nx (σ.set i (some v)) H') x r2 hD rv nj nt hf fun ι3 v H3 x3 r3 v3 => z ι3 _ H3 x3 r3 ((re.mono x3).set v3)
  · exact z.elim
/-! ### list(..) into the heap -/
def eListH (ms : SemA) : SemE := fun ρ h => (ms ρ h).bind fun xs h1 => match xs with
  | [w] => match w with
    | .d (.tuple ds) => .ok (.ref h1.n) (h1.new (.lst (ds.map .d)))
    | .d (.list ds) => .ok (.ref h1.n) (h1.new (.lst (ds.map .d)))
    | .ref i => match h1.f i with
      | some (.lst ws) => .ok (.ref h1.n) (h1.new (.lst ws))
      | _ => .bad
    | _ => .bad
  | _ => .bad
theorem je_listH {p : Pos} (hK : X.K = G.K) (hg : Gl X "list") (hm : X.mg "list" = none) (ha : JA G X ms (e :: es)) (he : starEach (e :: es) X.env = (false, eval e X.env) :: starEach es X.env := by rfl) (hpl : (backTo pos (starEach es X.env)).any (·.1) = false := by rfl) : JE G X (eListH ms) (.Call (.Name "list" p) (e :: es) [] pos) := fun U t =>
  (pe_callTy call_list_of hg hm PyProof.Rows.boot_list (ha U t) (he := he) (hpl := hpl)).imp fun σ H Q h => by
    refine rdA_bind (k := fun xs h1 => match xs with
      | [w] => match w with
        | .d (.tuple ds) => .ok (.ref h1.n) (h1.new (.lst (ds.map .d)))
        | .d (.list ds) => .ok (.ref h1.n) (h1.new (.lst (ds.map .d)))
        | .ref i => match h1.f i with
          | some (.lst ws) => .ok (.ref h1.n) (h1.new (.lst ws))
          | _ => .bad
        | _ => .bad
      | _ => .bad) h fun ι1 xs h1 vs H1 r1 v1 m1 => ?_
    split at m1
    case h_2 => exact m1.elim
    obtain ⟨v, rfl, rv⟩ := ws1 v1
    have fin : ∀ (ws : List W) (ys : List V), RepWs G.bare ι1 H1 ws ys → (okP G ι1 H1 Q (.ref h1.n) (h1.new (.lst ws))) → ∀ l, H1 l = none → Q (.ref l) (upd H1 l (.lst ys)) := fun ws ys rw' k l nl => k _ _ _ (r1.newExt nl) (r1.new nl ⟨ys, upd_same, rw'.mono (r1.newExt nl)⟩) ⟨l, Io.new_same, rfl⟩
    split at m1
    · rename_i ds
      cases rv with
      | @tup q ys _ t1 t2 => exact ⟨q, ys, rfl, .inr (by rw [hK]; exact t1), fin _ _ (rep_map (G := G.bare) t2) m1⟩
    · rename_i ds
      cases rv with
      | @lst q o ys _ t1 t2 => exact ⟨q, ys, rfl, .inl (.inl (.inr ⟨o, t1⟩)), fin _ _ (rep_map (G := G.bare) t2) m1⟩
    · rename_i i
      split at m1
      · rename_i ws hi
        obtain ⟨q, hq, rfl⟩ := rv
        obtain ⟨q', hq', ys, t1, t2⟩ := r1.ob i _ hi
        rw [hq] at hq'
        cases hq'
        exact ⟨q, ys, rfl, .inl (.inl (.inl t1)), fin _ _ t2 m1⟩
      · exact m1.elim
    · exact m1.elim
/-! ### l.index(x) -/
def idxD (d : PyData) : List PyData → Nat → Option Nat
  | [], _ => none
  | z :: zs, n => if PyData.eqv z d = true then some n else idxD d zs (n + 1)
theorem idxD_spec {d : PyData} : ∀ {zs : List PyData} {n j : Nat}, idxD d zs n = some j → ∃ k z, j = n + k ∧ zs[k]? = some z ∧ PyData.eqv z d = true ∧ ∀ (m : Nat) (z' : PyData), m < k → zs[m]? = some z' → PyData.eqv z' d = false
  | [], _, _, h => by cases h
  | z :: zs, n, j, h => by
    unfold idxD at h
    split at h
    · rename_i q
      cases h
      exact ⟨0, z, rfl, rfl, q, fun m _ hm _ => absurd hm (Nat.not_lt_zero m)⟩
    · rename_i q
      obtain ⟨k, z', e1, e2, e3, e4⟩ := idxD_spec h
      refine ⟨k + 1, z', by omega, by simpa using e2, e3, fun m y hm hy => ?_⟩
      cases m with
      | zero =>
        have : z = y := by simpa using hy
        rw [← this]
        simpa using q
      | succ m => exact e4 m y (by omega) (by simpa using hy)
def indexM : OpM := fun i ws xs h => match xs with
  | [.d d] => match allD ws with
    | some ds => if SeqAt.shaped (.list ds) && SeqAt.shaped d then (idxD d ds 0).map fun j => (.d (.int (j : Nat)), h) else none
    | none => none
  | _ => none
theorem ms_index (hK : X.K = G.K) (hu : X.A.units + 70 < cLine) : MtS G X "list.index" indexM := ⟨_, mt_indexD (by omega), fun ι h H i p ws us xs vs z h' Q r hp hi hu rw' rv e k => by
  unfold indexM at e
  split at e
  · rename_i d
    obtain ⟨v, rfl, q⟩ := ws1 rv
    split at e
    · rename_i ds hd
      split at e
      · rename_i ok
        rw [Bool.and_eq_true] at ok
        cases ej : idxD d ds 0 with
        | none => rw [ej] at e; cases e
        | some j =>
          rw [ej] at e
          cases e
          obtain ⟨n, z, e1, e2, e3, e4⟩ := idxD_spec ej
          have e1 : j = n := by omega
          subst e1
          have rd := allD_rep hd rw'
          rw [hK]
          exact ⟨p, v, d, ds, j, z, rfl, rfl, .lst (.inl (.inl hu)) (RepDs.dp _ _ rd (by have := SeqAt.canLay_of_shaped ok.1; simpa only [PyData.canLay0] using this)), RepD.dp _ _ q (SeqAt.canLay_of_shaped ok.2), ok.1, ok.2, e2, e3, e4, okP.here k r (.int _)⟩
      · cases e
    · cases e
  · cases e⟩
end
end Q

set_option Elab.async false
set_option maxRecDepth 100000
set_option linter.all false
set_option autoImplicit false
/-! QT: lambdas without parameters as values of the frame that makes them. -/
namespace Q
open PySem PySem.Spec PyProof.Rows L2 LamX

/-- a lambda of the text -/
structure LamI where
  params : Arguments
  body : Expr
  scope : Scope
/-- the function object of a lambda that is made with the cells cs under the name q -/
abbrev lamObj (q : Str) (cs : List (Str × Addr)) (l : LamI) (pm : Value) (c' : Addr) (ctv : Value) : Obj := PySem.W.kla_obj "<lambda>" q l.params l.body l.scope (cloFrom cs l.scope.names []) pm c' ctv
/-- the function f stands for good, and so does its code object -/
def LamAt (q : Str) (cs : List (Str × Addr)) (l : LamI) (H : Hp) (f : Addr) : Prop := ∃ (c' : Addr) (pm ctv : Value), H f = some (.frz (lamObj q cs l pm c' ctv) (.ext fun _ => True)) ∧ H c' = some (CodeO c' q)
def cloP (q : Str) (cs : List (Str × Addr)) (ls : List LamI) (k : Nat) (H : Hp) (v : V) : Prop := ∃ l f, ls[k]? = some l ∧ v = .ref f ∧ LamAt q cs l H f
theorem LamAt.mono {q : Str} {cs : List (Str × Addr)} {l : LamI} {H H' : Hp} {f : Addr} (s : Stb H H') (h : LamAt q cs l H f) : LamAt q cs l H' f := by
  obtain ⟨c', pm, ctv, h1, h2⟩ := h
  exact ⟨c', pm, ctv, s.frz _ _ _ h1, s.cod _ _ h2⟩
/-- the closures of a frame: q their name, cs the frame's cells -/
def Clo.of (q : Str) (cs : List (Str × Addr)) (ls : List LamI) : Clo where
  p := fun k _ H v => cloP q cs ls k H v
  mono := fun k ι H ι' H' v e ⟨l, f, h1, h2, h3⟩ => ⟨l, f, h1, h2, h3.mono e.st⟩
  non := fun k ι H v ⟨l, f, _, h2, _⟩ z => by rw [h2] at z; cases z
/-- .. seen from a block of the frame, in which the frame's own names are known by ρ0, σ0 -/
def Clo.at (q : Str) (cs : List (Str × Addr)) (ls : List LamI) (G : Gd) (ρ0 : Env') (σ0 : L2.St) : Clo where
  p := fun k ι H v => cloP q cs ls k H v ∧ RlE G.bare ι ρ0 σ0 H
  mono := fun k ι H ι' H' v e ⟨⟨l, f, h1, h2, h3⟩, r⟩ => ⟨⟨l, f, h1, h2, h3.mono e.st⟩, r.mono0 e⟩
  non := fun k ι H v ⟨⟨l, f, _, h2, _⟩, _⟩ z => by rw [h2] at z; cases z
def Gd.with (G : Gd) (c : Clo) : Gd := { G with cl := c }
theorem with_bare {G : Gd} {c : Clo} : (G.with c).bare = G.bare := rfl
/-- what a lambda asks of the cells -/
structure CellF (cs : List (Str × Addr)) (N : List Str) (sc : Scope) (σ0 : L2.St) (H : Hp) (h : Heap) : Prop where
  inj : ∀ y z c, cs.lookup y = some c → cs.lookup z = some c → y = z
  has : ∀ y ∈ sc.names, y.2 = .free → ∃ c, cs.lookup y.1 = some c
  cel : ∀ y c, cs.lookup y = some c → H c = none ∧ ∃ v, h.IsCell c v
  val : ∀ (i : Nat) (y : Str) (v : V), N[i]? = some y → σ0[i]? = some (some v) → (y, NameKind.free) ∈ sc.names → ∃ u c, RelV v u ∧ cs.lookup y = some c ∧ h.IsCell c (some u)
  len : σ0.length = N.length
theorem CellF.un {cs : List (Str × Addr)} {N : List Str} {sc : Scope} {σ0 : L2.St} {H HZ : Hp} {h h' : Heap} {fs : List Addr} (F : CellF cs N sc σ0 H h) (u : Un fs [] H HZ h h') : CellF cs N sc σ0 HZ h' := by
  have keep : ∀ {c : Addr} {v : Option Value}, H c = none → h.IsCell c v → h'.IsCell c v := fun {c v} n ⟨o, ho, hd⟩ => by
    obtain ⟨sl, q⟩ := u.any ho n (by simp)
    exact ⟨_, q, hd⟩
  refine ⟨F.inj, F.has, fun y c e => ?_, fun i y v h1 h2 h3 => ?_, F.len⟩
  · obtain ⟨n, v, z⟩ := F.cel y c e
    obtain ⟨o, ho, _⟩ := id z
    exact ⟨u.free c o ho n (by simp), v, keep n z⟩
  · obtain ⟨w, c, r, e, z⟩ := F.val i y v h1 h2 h3
    exact ⟨w, c, r, e, keep (F.cel y c e).1 z⟩
section
variable {X : Cx} {pins : List (Addr × Obj)} {σ : L2.St} {H HZ : Hp} {s s1 : Shared}
theorem cellF_of {scope : Scope} (I : Inv X pins σ H s) (L : LamS X.env.scope scope) : CellF X.env.cells X.N scope σ H s.heap := by
  refine ⟨I.ok.inj, L.has I.ok, fun y c e => ⟨I.freeC y c e, I.cell y c e⟩, fun i y v h1 h2 h3 => ?_, I.len⟩
  obtain ⟨m, _, hl⟩ := I.loc
  have cs := L.free _ h3 rfl
  obtain ⟨u, r, q⟩ := hl i y v h1 h2 (cs.elim (fun k => .inr (.inl k)) fun k => .inr (.inr k))
  rcases q with ⟨k, _⟩ | ⟨_, c, e, z⟩
  · have k : X.env.scope.names.lookup y = some .local := k
    rcases cs with k2 | k2
    · rw [show X.env.scope.names.lookup y = _ from k2] at k
      cases k
    · rw [show X.env.scope.names.lookup y = _ from k2] at k
      cases k
  · exact ⟨u, c, r, e, z⟩
/-- the lambda's frame is laid -/
theorem lam_enter {A : Around} {outer : List Env} {E : XK} {scope : Scope} {f c' : Addr} {h₁ : Heap} {tk : Nat} {σ0 : L2.St} (F : CellF X.env.cells X.N scope σ0 HZ s1.heap) (L : LamS X.env.scope scope) (e0 : Env0 X.prog X.w X.K X.mg X.base A outer s1 HZ) (hd : A.handled = none)
    (hns : h₁.Ns s1.heap.objs.size fun y => ([] : List (Str × Value)).reverse.lookup y) (kp : ∀ b o, s1.heap.get? b = some o → h₁.get? b = some o) :
    Inv (lamCx X A outer s1 HZ E scope f c') [] σ0 HZ { s1 with heap := h₁, toks := tk } := by
  have back : ∀ {y : Str} {c : Addr}, (cloFrom X.env.cells scope.names []).lookup y = some c → X.env.cells.lookup y = some c := fun {y c} e => by
    rcases cloFrom_mem (PySem.mem_of_lookup e) with hm | ⟨h1, h2⟩
    · cases hm
    · obtain ⟨c1, hc⟩ := F.has _ h1 rfl
      have hc : X.env.cells.lookup y = some c1 := hc
      rw [show c = c1 by rw [h2, hc] <;> rfl]
      exact hc
  have fwd : ∀ {y : Str}, scope.names.lookup y = some .free → ∃ c, (cloFrom X.env.cells scope.names []).lookup y = some c := fun {y} hl => mem_lookup (cloFrom_has (cells := X.env.cells) (acc := []) (PySem.mem_of_lookup hl : (y, NameKind.free) ∈ scope.names))
  have moved : ∀ {c : Addr} {v : Option Value}, s1.heap.IsCell c v → h₁.IsCell c v := fun {c v} ⟨o, ho, hd⟩ => ⟨o, kp _ _ ho, hd⟩
  have none_ex : ∀ b : Addr, b ∉ (lamCx X A outer s1 HZ E scope f c').ex := fun b z => List.not_mem_nil (show b ∈ ([] : List Addr) from z)
  have ok : (lamCx X A outer s1 HZ E scope f c').Ok :=
    { mod := e0.mod, kind := L.kind, glob := rfl, blt := rfl, above := Nat.le_refl _
      inj := fun y z c e1 e2 => F.inj y z c (back e1) (back e2)
      has := fun y hy => by
        rcases (show scope.names.lookup y = some .cell ∨ scope.names.lookup y = some .free from hy) with k | k
        · exact absurd rfl (L.own _ (PySem.mem_of_lookup k)).2
        · exact fwd k
      cab := fun y c z _ => absurd (show false = true from z) Bool.false_ne_true
      hd := fun _ => hd, frames := Around.frames_deeper e0.frames, stk := .inr ⟨rfl, rfl⟩, exf := fun b z => absurd z (none_ex b)
      bs := e0.bs, bsz := e0.bsz, noex := fun b _ _ => none_ex b, exfs := fun b z => absurd z (none_ex b), funs := e0.funs, frf := e0.frf }
  refine ⟨ok, rfl, e0.bare, Un.kept kp, ⟨_, hns, fun i y v h1 h2 h3 => ?_⟩, fun y c e => ?_, e0.hok.fresh (Nat.le_refl _), fun y c e => (F.cel y c (back e)).1, fun q hq => ?_, e0.hok.kept kp, F.len⟩
  · rcases (show Vis scope y from h3) with k | k | k
    · exact absurd rfl (L.own _ (PySem.mem_of_lookup k)).1
    · exact absurd rfl (L.own _ (PySem.mem_of_lookup k)).2
    · obtain ⟨u, c, r, e, z⟩ := F.val i y v h1 h2 (PySem.mem_of_lookup k)
      obtain ⟨c2, e2⟩ := fwd k
      have e3 := back e2
      rw [e] at e3
      cases e3
      exact ⟨u, r, .inr ⟨.inr k, c, e2, moved z⟩⟩
  · obtain ⟨_, v, z⟩ := F.cel y c (back e)
    exact ⟨v, moved z⟩
  · exact absurd (show q ∈ ([] : List (Addr × Obj)) ++ [] from hq) (by simp)
/-- a lambda is made: its function object stands for good -/
theorem lam_makeF {T : List (Addr × Str)} {c P : Addr} {l : LamI} {pos : Pos} {E : Value → Shared → Prop} {Q : Value → Shared → Prop} (I : Inv X pins σ H s) (TB : TabB X.base X.mg c P) (hcode : X.env.code = .ref c)
    (hm : (P, X.env.qual ++ "<lambda>") ∈ T) (hu : ∀ p ∈ T, p.1 = P → p.2 = X.env.qual ++ "<lambda>") (hT : Tabs T H) (hdef : defaultsOf l.params X.env = ([], [])) (hfree : ∀ y ∈ l.scope.names, y.2 = .free → ∃ c, X.env.cells.lookup y.1 = some c)
    (h : ∀ (f : Addr) (H1 : Hp) (s' : Shared), Inv X pins σ H1 s' → ExtN H H1 → Tabs T H1 → LamAt (X.env.qual ++ "<lambda>") X.env.cells l H1 f → Q (.ref f) s') :
    wpAny (model X.prog X.w) X.A (eval (.Lambda l.params l.body l.scope pos) X.env) Q E s := by
  obtain ⟨ps, hP, ht, ha⟩ := hT _ hm
  have bP : s.heap.BuiltinsAt X.mg P := TB.bm.keeps I.bk
  have hP' : s.heap.get? P = some { cls := .none, data := .fields ps } := I.hok P _ hP
  -- the function object itself, laid last
  have lay : ∀ (H1 : Hp) (s1 : Shared) (c' : Addr) (ctv : Value) (tk : Nat), Inv X pins σ H1 s1 → ExtN H H1 → Tabs T H1 → H1 c' = some (CodeO c' (X.env.qual ++ "<lambda>")) →
      Q (.ref s1.heap.objs.size) { s1 with heap := s1.heap.push (lamObj (X.env.qual ++ "<lambda>") X.env.cells l ((X.mg "__name__").getD .none) c' ctv), toks := tk } := fun H1 s1 c' ctv tk I1 eN T1 hc => by
    have n := I1.hok.fresh (Nat.le_refl s1.heap.objs.size)
    have I2 := I1.laid (a := s1.heap.objs.size) (o := .frz (lamObj (X.env.qual ++ "<lambda>") X.env.cells l ((X.mg "__name__").getD .none) c' ctv) (.ext fun _ => True)) (t' := tk) (fun _ _ q => Heap.get?_push_of_some _ q) (Nat.le_refl _) ⟨Heap.get?_push_size _ rfl, trivial, ⟨_, Heap.get?_push_size _ rfl⟩, fun _ _ _ _ => trivial⟩
    exact h _ _ _ I2 (eN.trans (ExtN.of fun b o q => by rw [upd_ne (ne_of_none q n)]; exact q)) (T1.ext fun b o q => by rw [upd_ne (ne_of_none q n)]; exact q) ⟨c', _, ctv, upd_same, by rw [upd_ne (ne_of_none hc n)]; exact hc⟩
  refine PySem.W.kla_eval hdef ?_
  cases hc : codeAmong pos ps.toList with
  | some cv =>
    obtain ⟨c', e, hco⟩ := ha pos cv hc
    subst e
    refine PySem.W.kla_makeFunctionHit (mg := X.mg) (c := c) (P := P) (ps := ps) (closure_ok hfree) I.ok.glob (I.mod.glob.keeps I.bk) hcode (TB.code.keeps I.bk) hP' ht hc bP fun ctv h' tk hx hsz => ?_
    exact lay H { s with heap := h' } c' ctv tk (I.kept (t' := s.toks) hx) (ExtN.refl H) hT hco
  | none =>
    refine PySem.W.kla_makeFunction (mg := X.mg) (c := c) (P := P) (ps := ps) (closure_ok hfree) I.ok.glob (I.mod.glob.keeps I.bk) hcode (TB.code.keeps I.bk) hP' ht hc TB.gP bP fun c' ctv h' tk hx hge hlt hrec htb => ?_
    obtain ⟨c2, oc, vs, t, e2, hoc, hd, hv⟩ := hrec
    cases e2
    have nC : H c' = none := I.hok.fresh hge
    have I1 := inv_table (t' := s.toks) (more := #[rawInt pos.line, rawInt pos.col, .ref c']) (h' := h') I hP hx htb hge ⟨oc, vs, t, hoc, hd, hv⟩
    have eN : ExtN H (upd (upd H P (.tbl (ps ++ #[rawInt pos.line, rawInt pos.col, .ref c']))) c' (CodeO c' (X.env.qual ++ "<lambda>"))) := fun b o e n => by
      have n1 : b ≠ c' := ne_of_none e nC
      have n2 : b ≠ P := fun z => by
        rw [z, hP] at e
        exact n ps (Option.some.inj e).symm
      rw [upd_ne n1, upd_ne n2]
      exact e
    refine lay _ { s with heap := h' } c' ctv tk I1 eN (fun p hp => ?_) upd_same
    by_cases hb : p.1 = P
    · refine ⟨_, by rw [hb, upd_ne (ne_of_none hP nC), upd_same], ?_, fun p' cv hcv => ?_⟩
      · rw [show (ps ++ #[rawInt pos.line, rawInt pos.col, .ref c']).toList = ps.toList ++ [rawInt pos.line, rawInt pos.col, .ref c'] by simp]
        exact PySem.TriplesOk_snoc _ _ _ _ ht
      · rw [show (ps ++ #[rawInt pos.line, rawInt pos.col, .ref c']).toList = ps.toList ++ [rawInt pos.line, rawInt pos.col, .ref c'] by simp] at hcv
        rw [hu p hp hb]
        rcases among_app _ ht hcv with z | z
        · obtain ⟨c0, e1, e2⟩ := ha p' cv z
          exact ⟨c0, e1, eN _ _ e2 codeO_ne⟩
        · exact ⟨c', z, upd_same⟩
    · obtain ⟨qs, a1, a2, a3⟩ := hT p hp
      refine ⟨qs, by rw [upd_ne (ne_of_none a1 nC), upd_ne hb]; exact a1, a2, fun p' cv hcv => ?_⟩
      obtain ⟨c0, e1, e2⟩ := a3 p' cv hcv
      exact ⟨c0, e1, eN _ _ e2 codeO_ne⟩
end
/-- all but the tables stay: an extension -/
theorem Ext.ofN {ι : Io} {H H1 : Hp} (e : ExtN H H1) : Ext ι H ι H1 := ⟨fun _ _ h => h, ⟨fun b xs q => e b _ q (fun ps z => by cases z), fun b o u q => e b _ q (fun ps z => by cases z), fun b q z => e b _ z codeO_ne⟩, fun b o q _ t => e b o q t, fun b ⟨o, q, t⟩ => ⟨o, e b o q t, t⟩, fun _ _ h => .inl h⟩
theorem RlH.ofN {G : Gd} {ι : Io} {h : AH} {H H1 : Hp} (r : RlH G ι h H) (e : ExtN H H1) (t : Tabs G.tabs H1) : RlH G ι h H1 where
  ob := fun i o hi => by
    obtain ⟨a, h1, h2⟩ := r.ob i o hi
    obtain ⟨u, q, n⟩ := r.trk i a h1
    exact ⟨a, h1, h2.mono (Ext.ofN e) (by rw [e a u q n, q])⟩
  lt := r.lt
  inj := r.inj
  trk := fun i a hi => by
    obtain ⟨u, q, n⟩ := r.trk i a hi
    exact ⟨u, e a u q n, n⟩
  tab := t
def eLam (k : Nat) : SemE := fun _ h => .ok (.clo k) h
theorem je_lam {G : Gd} {X : Cx} {ls : List LamI} {k : Nat} {l : LamI} {c P : Addr} {pos : Pos} (hk : ls[k]? = some l) (hG : ∀ k H v ι, cloP (X.env.qual ++ "<lambda>") X.env.cells ls k H v → G.cl.p k ι H v) (TB : TabB X.base X.mg c P) (hcode : X.env.code = .ref c)
    (hm : (P, X.env.qual ++ "<lambda>") ∈ G.tabs) (hu : ∀ p ∈ G.tabs, p.1 = P → p.2 = X.env.qual ++ "<lambda>") (hdef : defaultsOf l.params X.env = ([], [])) (L : LamS X.env.scope l.scope) : JE G X (eLam k) (.Lambda l.params l.body l.scope pos) := fun U t =>
  ⟨fun pins s σ H Q I ⟨ι, ρ, h0, rh, re, m⟩ => lam_makeF I TB hcode hm hu rh.tab hdef (L.has I.ok) fun f H1 s' I1 eN T1 la => ⟨.ref f, H1, I1, rfl, m ι _ _ (Ext.ofN eN) (rh.ofN eN T1) (hG k H1 _ ι ⟨l, f, hk, rfl, la⟩)⟩⟩
end Q

set_option Elab.async false
set_option maxRecDepth 100000
set_option linter.all false
set_option autoImplicit false
/-! QU: a caught exception that stands for good; a function that calls what it got and tells the error. -/
namespace Q
open PySem PySem.Spec PyProof.Rows L2 LamX

section
variable {X : Cx} {pins : List (Addr × Obj)} {σ : L2.St} {H : Hp} {s : Shared}
/-- an object of the heap, new since the entry and known to nobody, stands for good from now on -/
theorem _root_.L2.Inv.keepF {a : Addr} {o : Obj} (I : Inv X pins σ H s) (ha : s.heap.get? a = some o) (na : H a = none) (n0 : ∀ o, X.s_0.heap.get? a ≠ some o) (nL : a ≠ X.env.locals) (nC : ∀ y c, X.env.cells.lookup y = some c → c ≠ a) (nP : ∀ p ∈ X.pn ++ pins, p.1 ≠ a) :
    Inv X pins σ (upd H a (.frz o (.ext fun _ => True))) s := by
  have st : ∀ b u, H b = some u → upd H a (.frz o (.ext fun _ => True)) b = some u := fun b u q => by rw [upd_ne (ne_of_none q na)]; exact q
  refine ⟨I.ok, I.os, I.bare, ⟨I.base.keep, I.base.slot, fun b ob e n hx => ?_, I.base.there, fun b xs e => st _ _ (I.base.tups b xs e), fun b ob u e => st _ _ (I.base.frzs b ob u e), fun b ps e => ?_⟩, I.loc, I.cell, ?_, fun y c e => ?_, fun p hp => ?_, fun b u e => ?_, I.len⟩
  · rw [upd_ne (fun z => n0 ob (by rw [← z]; exact e))]
    exact I.base.free b ob e n hx
  · obtain ⟨more, q⟩ := I.base.tbls b ps e
    exact ⟨more, st _ _ q⟩
  · rw [upd_ne (Ne.symm nL)]
    exact I.free
  · rw [upd_ne (nC y c e)]
    exact I.freeC y c e
  · obtain ⟨h1, h2, h3, h4, h5⟩ := I.pin p hp
    exact ⟨h1, by rw [upd_ne (nP p hp)]; exact h2, h3, h4, h5⟩
  · by_cases hb : b = a
    · subst hb
      rw [upd_same] at e
      cases e
      exact ⟨ha, trivial, ⟨o, ha⟩, fun _ _ _ _ => trivial⟩
    · rw [upd_ne hb] at e
      exact (I.hok b u e).stay (fun _ _ _ q => q) (fun c q => st _ _ q) fun c xs q => st _ _ q
end
/-- what the clause wishes of an exception of the body: it stands for good behind the suite -/
def wK (K : PySem.W.Frag) (c : Value) (i : Nat) (ts : Addr → Value → Option Addr → TS) (D : Ends) : WX := fun cls d σ H => PySem.W.exmOne K cls c = some true ∧
  ∀ a, H a = none → ts a cls d { nx := fun σ' H' => ∀ oe, Zc cls d oe → (∃ vs, oe.data = .fields vs) → H' a = none → D.nx (σ'.set i none) (upd H' a (.frz oe (.ext fun _ => True))), rt := fun _ _ => False } (σ.set i (some (.ref a))) H
section
variable {X : Cx} {x n : Str} {c : Value} {i : Nat} {body suite : List Stmt} {b₀ : Stmt} {np pos pos' : Pos} {tb : WX → TS} {ts : Addr → Value → Option Addr → TS}
theorem ps_tryK (hex : X.ex = []) (hs : X.stack = X.env :: X.outer) (hf : X.env.frame = some X.env.locals) (hN : X.N.Nodup) (hi : X.N[i]? = some n) (hln : X.env.kindOf n = some .local) (hg : Gl X x) (hm : X.mg x = some c) (hdb : (x == ("__debug__" : Str)) = false)
    (hb : ∀ (W : WX) (pn : List (Addr × Obj)) (xe : Value → Shared → Prop), Takes (X.tr pn xe) W → PSs (X.tr pn xe) body (tb W))
    (hsu : ∀ (a : Addr) (oe : Obj) (cls : Value) (d : Option Addr) (pn : List (Addr × Obj)), PSs (X.suite a ((a, oe) :: pn)) (b₀ :: suite) (ts a cls d)) :
    PS X (.Try body [.ExceptHandler (some (.Name x np)) (some n) (b₀ :: suite) pos'] [] [] pos) (fun D σ H => tb (wK X.K c i ts D) D σ H) := by
  constructor
  intro pins s σ H D I h
  have ok := I.ok
  have hfr : X.A.frames = some (X.env :: X.outer) := by rw [ok.frames, hs]
  refine wpAny_Try_except (wpAny_mono ((hb (wK X.K c i ts D) (X.pn ++ pins) (fun e s₁ => wpAny (model X.prog X.w) X.A (noteFrame e X.env) (fun _ s₂ => wpAny (model X.prog X.w) X.A (setFlight e none) (fun _ s₃ =>
    wpAny (model X.prog X.w) X.A (handleBy e X.env [.ExceptHandler (some (.Name x np)) (some n) (b₀ :: suite) pos']) (SP X pins D) X.xe s₃) X.xe s₂) X.xe s₁) (fun u s' xx => ?_)).run [] s σ H D (I.toTry _) h) (fun f s1 hsp => ?_) fun e s1 he => he)
  · obtain ⟨a, B, sI, pins', σ', H', cls, d, rfl, J', nb, up, sky, na, os, ag, hx1, hyes⟩ := xx
    have J : Inv X pins σ' H' sI := J'.ofTry ok
    have bn : B.get? a = none := by
      rcases sky with ⟨_, q, _⟩ | ⟨_, q, _⟩ | ⟨_, q, _⟩ <;> exact q
    -- what stood in sI is not a
    have apart : ∀ b o, sI.heap.get? b = some o → b ∉ frs X.stack → b ≠ a := fun b o e hb z => by
      have q := nb b o e hb
      rw [z, bn] at q
      cases q
    show wpAny (model X.prog X.w) X.A (noteFrame (.ref a) X.env) _ _ _
    refine Sky.land Zc.steady hfr hf (by rw [← hs]; exact sky) fun h3 fl3 up3 => ?_
    have J3 : Inv X pins σ' H' { s' with heap := h3 } := J.landed nb fl3.1 (up.trans up3) os ag
    obtain ⟨oe3, vs3, he3, hz3, hd3⟩ := fl3.there
    have nfr : a ∉ frs (X.env :: X.outer) := fun hm => by
      obtain ⟨_, o', e', hnf⟩ := fl3.2.2.1.mem hm
      rw [he3] at e'
      cases e'
      exact hnf _ hd3
    have nL : a ≠ X.env.locals := fun z => nfr (List.mem_filterMap.mpr ⟨X.env, List.mem_cons_self, by rw [hf, z]⟩)
    have nF : a ∉ X.fs := fun hm => by
      obtain ⟨e, he, q⟩ := List.mem_filterMap.mp hm
      exact nfr (List.mem_filterMap.mpr ⟨e, List.mem_cons_of_mem _ he, q⟩)
    have nS : a ∉ frs X.stack := by rw [hs]; exact nfr
    have away : ∀ b o, sI.heap.get? b = some o → b ≠ a := fun b o e z => apart b o e (by rw [z]; exact nS) z
    have n0 : ∀ o, X.s_0.heap.get? a ≠ some o := fun o e => by
      obtain ⟨o', q⟩ := J.base.there a o e (by rw [hex]; simp)
      exact away a o' q rfl
    have nC : ∀ y c, X.env.cells.lookup y = some c → c ≠ a := fun y c e => by
      obtain ⟨v, o, q, _⟩ := J.cell y c e
      exact away c o q
    have nP : ∀ p ∈ X.pn ++ pins, p.1 ≠ a := fun p hp => away _ _ (J.pin p hp).1
    have S3 := J3.suite he3 hd3 na nL nF
    refine wpAny_handleBy_cons (codeAny_handlers_test ?_) (by intro q; cases q)
    have LT : PySem.W.Looks (model X.prog X.w) h3 (typeOf (.ref a)) cls := fun A Q E s k q => wpAny_typeOf_ref (k _ _ he3) (by rw [hz3.1]; exact q)
    have LM := PySem.W.exm_one (M := model X.prog X.w) (J3.kIn) LT hx1
    refine ld_glob (X := X.suite a ((a, oe3) :: (X.pn ++ pins))) S3 hg hm (LM.here ?_) hdb
    refine codeAny_handlers_suite_as (HandSPX.lands_againZ fl3 fun h4 fl4 up4 => ?_)
    have J4 : Inv X pins σ' H' { s' with heap := h4 } := J.landed nb fl4.1 ((up.trans up3).trans up4) os ag
    obtain ⟨oe4, vs4, he4, hz4, hd4⟩ := fl4.there
    refine store_ok (X := X.suite a ((a, oe4) :: (X.pn ++ pins))) (v := .ref a) (J4.suite he4 hd4 na nL nF) hN hi (.inl hln) rfl (fun s5 S5 => ?_) (.inr hln)
    refine wpAny_mono ((hsu a oe4 cls d (X.pn ++ pins)).run [] s5 _ H' _ S5 (hyes a na)) (fun f s6 hsp => ?_) (fun _ _ z => False.elim z)
    cases f with
    | next =>
      obtain ⟨σ6, H6, S6, q6⟩ := hsp
      obtain ⟨e6, n6, _⟩ := S6.pin (a, oe4) (List.mem_append_left _ List.mem_cons_self)
      have K6 := (S6.unsuite ok).keepF e6 n6 n0 nL nC nP
      exact gone_ok K6 hN hi hln fun s7 J7 => ⟨_, _, J7, q6 oe4 hz4 ⟨_, hd4⟩ n6⟩
    | brk =>
      obtain ⟨_, _, _, q6⟩ := hsp
      exact False.elim q6
    | cont =>
      obtain ⟨_, _, _, q6⟩ := hsp
      exact False.elim q6
    | ret u =>
      obtain ⟨_, _, _, _, _, q6⟩ := hsp
      exact False.elim q6
  · cases f with
    | next =>
      obtain ⟨σ', H', J', q⟩ := hsp
      exact wpAny_execs_nil ⟨σ', H', J'.ofTry ok, q⟩
    | brk =>
      obtain ⟨σ', H', J', q⟩ := hsp
      exact ⟨σ', H', J'.ofTry ok, q⟩
    | cont =>
      obtain ⟨σ', H', J', q⟩ := hsp
      exact ⟨σ', H', J'.ofTry ok, q⟩
    | ret u =>
      obtain ⟨v, σ', H', J', r, q⟩ := hsp
      exact ⟨v, σ', H', J'.ofTry ok, r, q⟩
end
end Q

set_option Elab.async false
set_option maxRecDepth 100000
set_option linter.all false
set_option autoImplicit false
/-! QV: the def that calls a lambda and tells what it raised. -/
namespace Q
open PySem PySem.Spec PyProof.Rows L2 LamX

/-- what is to be known of a lambda of the maker X: it stands as a function of the frame's names -/
structure LamOk (G : Gd) (X : Cx) (k : Nat) (l : LamI) (mk : SemE) : Prop where
  L : LamS X.env.scope l.scope
  bind : ∀ (q : Str) (cs : List (Str × Addr)) (pm cv ctv : Value), bindArgs (PySem.W.kla_fn "<lambda>" q l.params l.body l.scope (cloFrom cs l.scope.names []) pm cv ctv) ⟨[], []⟩ = pure []
  body : ∀ (A : Around) (outer : List Env) (s : Shared) (H : Hp) (E : XK) (f c' : Addr), Room k (A.deeper (lamEnv X l.scope s.heap.objs.size f c')) → JE G.bare (lamCx X A outer s H E l.scope f c') mk l.body
section
variable {G : Gd} {X Y : Cx} {k : Nat} {l : LamI} {mk : SemE} {ρ0 : Env'} {σ0 : L2.St} {H0 : Hp} {s0 : Shared}
/-- a(), a the lambda: within any frame Y over the maker's ground, entered at s0 -/
theorem pe_actF {W : WX} {a : Str} {p1 p2 : Pos} (hc : X.prog = Y.prog ∧ X.w = Y.w ∧ X.K = Y.K ∧ X.mg = Y.mg ∧ X.base = Y.base) (F : CellF X.env.cells X.N l.scope σ0 H0 s0.heap) (O : LamOk G X k l mk) (tk : Takes Y W) (hr : Room (k + 1) Y.A)
    (h0 : Y.H_0 = H0) (hs0 : Y.s_0 = s0) (hex : Y.ex = []) (hN : Y.N[0]? = some a) (hv : Vis Y.env.scope a) (hd : (a == ("__debug__" : Str)) = false) (hcd : (a == ("__classdict__" : Str)) = false) :
    PE Y (.Call (.Name a p1) [] [] p2) (fun σZ HZ Q => ∃ f, σZ[0]? = some (some (.ref f)) ∧ ∃ (ι : Io) (h : AH), RlH G.bare ι h HZ ∧ RlE G.bare ι ρ0 σ0 HZ ∧ LamAt (X.env.qual ++ "<lambda>") X.env.cells l HZ f ∧ (mk ρ0 h).to (okP G.bare ι HZ Q) (erP G.bare ι HZ (xk W σZ))) := by
  constructor
  intro pinsZ sZ σZ HZ Q IZ hx
  obtain ⟨f, hs, ι, h, rh, re, la, m⟩ := hx
  refine wpAny_Call_Name_kw (thn ((pe_var (pos := p1) (i := 0) hN hv hd hcd).run pinsZ sZ σZ HZ (fun v H1 => v = .ref f ∧ H1 = HZ) IZ ⟨.ref f, hs, rfl, rfl⟩) fun u s1 hu => ?_)
  obtain ⟨v, H1, I1, r1, ev, eH⟩ := hu
  subst ev
  rw [eH] at I1
  obtain rfl : u = Value.ref f := r1
  obtain ⟨c', pm, ctv, hf, hco⟩ := la
  have at1 : s1.heap.get? f = some (lamObj (X.env.qual ++ "<lambda>") X.env.cells l pm c' ctv) := (I1.hok f _ hf).1
  obtain ⟨⟨oc, vs, t, hoc, hdc, hvc⟩, _, _⟩ := I1.hok c' _ hco
  refine PySem.W.callWith_F0 ⟨_, _, _, _, at1⟩ ?_
  have base := I1.base
  rw [hex, h0, hs0] at base
  have F1 : CellF X.env.cells X.N l.scope σ0 HZ s1.heap := F.un base
  have e0 : Env0 X.prog X.w X.K X.mg X.base Y.A Y.stack s1 HZ := by
    rw [hc.1, hc.2.1, hc.2.2.1, hc.2.2.2.1, hc.2.2.2.2]
    exact I1.env0
  have run : codeAny (model X.prog X.w) Y.A (.call (.ref f) ⟨[], []⟩) (CR (L2.CX X.prog X.w) Y.stack X.prog X.w HZ s1 Q (WE W σZ)) s1 := by
    refine PySem.W.kla_callFunE hr.depth at1 rfl O.L.co O.L.gen rfl ⟨c', oc, vs, t, rfl, hoc, hdc, hvc⟩ ?_
    rw [O.bind]
    refine wpAny_pure (wpAny_newFunctionEnv (fun y hy => (O.L.own y hy).2) (fun y hy => absurd hy (by simp)) (fun h₁ hns hsb => ⟨I1.nolimit.fresh _ hsb, ?_⟩) O.L.kind)
    have kp : ∀ b o, s1.heap.get? b = some o → h₁.get? b = some o := fun b o e => hsb.extBut b o (Nat.ne_of_lt (Heap.lt_size e)) (Heap.get?_push_of_some _ e)
    have J := lam_enter (E := WE W σZ) (f := f) (c' := c') (tk := s1.toks + ([] : List (Str × Value)).length) F1 O.L e0 hr.hd hns kp
    have body := O.body Y.A Y.stack s1 HZ (WE W σZ) f c' (hr.deeper _) (fun c d _ H' => WE W σZ c d H') (takes_of rfl rfl rfl rfl)
    refine PySem.W.kla_codeExpr (wpAny_mono (body.run [] _ _ HZ Q J ⟨ι, ρ0, h, rh, re, m⟩) (fun v s' hq => ?_) fun e s' hq => hq)
    obtain ⟨w', H', J', rv, q⟩ := hq
    exact ⟨w', H', J'.os, J'.bare, J'.base, J'.hok, rv, q⟩
  rw [hc.1, hc.2.1] at run
  refine wpAny_call (codeAny_mono run fun r s' hq => ?_)
  cases r with
  | error e => exact passAt tk σZ pinsZ HZ s1 e s' I1 hq
  | ok fl =>
    cases fl with
    | ret u => exact I1.after hq
    | next => exact False.elim hq
    | brk => exact False.elim hq
    | cont => exact False.elim hq
/-- the body of the try, read -/
def tAct (G : Gd) (X : Cx) (l : LamI) (mk : SemE) (ρ0 : Env') (σ0 : L2.St) : WX → TS := fun W D σ H => ∃ f, σ[0]? = some (some (.ref f)) ∧ ∃ (ι : Io) (h : AH), RlH G.bare ι h H ∧ RlE G.bare ι ρ0 σ0 H ∧ LamAt (X.env.qual ++ "<lambda>") X.env.cells l H f ∧ (mk ρ0 h).to (okP G.bare ι H fun _ H' => D.nx σ H') (erP G.bare ι H (xk W σ))
/-- the def's body: found = None / try: a() / except x as er: found = er / return found -/
abbrev caughtBody (a fo er x : Str) (j : Nat) (q1 q2 q3 p1 p2 p3 np r1 r2 r3 pos' tpos t1 t2 : Pos) : List Stmt :=
  [.Assign [.Name fo q1] (.Constant .none j q2) q3, .Try [.Expr (.Call (.Name a p1) [] [] p2) p3] [.ExceptHandler (some (.Name x np)) (some er) [.Assign [.Name fo r1] (.Name er r2) r3] pos'] [] [] tpos, .Return (some (.Name fo t1)) t2]
/-- what a caught call comes to -/
def caughtTo (errs : List String) (o : Out W) : Out W := match o with
  | .ok _ h => .ok (.d .none) h
  | .err c fs h => if c ∈ errs then .ok (.exc c fs) h else .bad
  | .bad => .bad
/-- the def that catches, as it stands in the written part -/
structure CaughtDef (X : Cx) (fn : Str) (g : Addr) (errs : List String) (mg : Str → Option Value) : Prop where
  gm : X.mg fn = some (.ref g)
  kp : PySem.W.keepIn X.K (.ref g) = true
  ex : ∃ (st : Stmt) (fd : FuncData) (a fo er x : Str) (CS : Addr) (j : Nat) (q1 q2 q3 p1 p2 p3 np r1 r2 r3 pos' tpos t1 t2 : Pos), L2.Fun X.K fn fn st g fd ∧ L2.Binds X.K fd [a] [] ∧ FnScope [a, fo, er] [a] (defScope st) ∧ defBody st = caughtBody a fo er x j q1 q2 q3 p1 p2 p3 np r1 r2 r3 pos' tpos t1 t2 ∧
    (defScope st).names.lookup a = some .local ∧ (defScope st).names.lookup fo = some .local ∧ (defScope st).names.lookup er = some .local ∧ (defScope st).names.lookup x = some .globalImplicit ∧ X.mg x = some (.ref CS) ∧
    (∀ n ∈ [a, fo, er, x], (n == ("__debug__" : Str)) = false ∧ (n == ("__classdict__" : Str)) = false) ∧ ∀ c ∈ errs, ∀ C, mg (Str.ofString c) = some (.ref C) → PySem.W.exmOne X.K (.ref C) (.ref CS) = some true
/-- the def is called with the lambda f, within B over the maker's ground -/
theorem caught_run {B : Cx} {pins : List (Addr × Obj)} {σ : L2.St} {H : Hp} {s : Shared} {errs : List String} {fn : Str} {g f : Addr} {ι : Io} {h : AH} {Q : VK} {U : WX} (hc : X.prog = B.prog ∧ X.w = B.w ∧ X.K = B.K ∧ X.mg = B.mg ∧ X.base = B.base) (D : CaughtDef B fn g errs G.mg) (I : Inv B pins σ H s) (tk : Takes B U) (hr : Room (k + 2) B.A)
    (F : CellF X.env.cells X.N l.scope σ0 H s.heap) (O : LamOk G X k l mk) (rh : RlH G.bare ι h H) (re : RlE G.bare ι ρ0 σ0 H) (la : LamAt (X.env.qual ++ "<lambda>") X.env.cells l H f) (m : (caughtTo errs (mk ρ0 h)).to (okP G.bare ι H Q) (erP G.bare ι H (xk U σ))) :
    wpAny (model B.prog B.w) B.A (call (.ref g) [.ref f]) (EP B pins σ Q) B.xe s := by
  obtain ⟨st, fd, a, fo, er, x, CS, j, q1, q2, q3, p1, p2, p3, np, r1, r2, r3, pos', tpos, t1, t2, FN, hb, S, hbody, n1, n2, n3, n4, mx, dbg, herr⟩ := D.ex
  obtain ⟨oc, od, kV, doc, pm, an, cdv, ct, osl, rfl, lk, hcd⟩ := FN.ex
  have run := run_ofS (CX := L2.CX B.prog B.w) (E := WE U σ) (Q := Q) (N := [a, fo, er]) (ps := [a]) (us := [.ref f]) (vs := [.ref f]) lk hcd S hr I.env0 (hb s [.ref f] I.kIn rfl) (.cons rfl .nil) rfl fun hr' => by
    have dd : ∀ n ∈ [a, fo, er, x], (n == ("__debug__" : Str)) = false := fun n hn => (dbg n hn).1
    have dc : ∀ n ∈ [a, fo, er, x], (n == ("__classdict__" : Str)) = false := fun n hn => (dbg n hn).2
    show ∃ t, PSs _ (defBody st) t ∧ _
    rw [hbody]
    generalize hZ : cxOf (L2.CX B.prog B.w) B.prog B.w B.K B.mg B.base [a, fo, er] fn (defScope st) g cdv B.A B.stack s H (WE U σ) = Z
    have zN : Z.N = [a, fo, er] := by rw [← hZ]; rfl
    have zsc : Z.env.scope = defScope st := by rw [← hZ]; rfl
    have zK : Z.K = B.K := by rw [← hZ]; rfl
    have znd : Z.N.Nodup := by rw [zN]; exact S.nd
    have v : ∀ {y : Str}, (defScope st).names.lookup y = some .local → Z.env.scope.names.lookup y = some .local := fun h => by rw [zsc]; exact h
    have gx : Gl Z x := by
      show Z.env.scope.names.lookup x = some .globalImplicit
      rw [zsc]
      exact n4
    have mgx : Z.mg x = some (.ref CS) := by rw [← hZ]; exact mx
    have s1 : PS Z (.Assign [.Name fo q1] (.Constant .none j q2) q3) (tAsg (L2.tC .non) (gName 1)) := ps_set znd (show Z.N[1]? = some fo by rw [zN]; rfl) (.inl (v n2)) pe_non (by first | rfl | (rw [← hZ]; rfl)) (.inr (v n2))
    have s3 : PS Z (.Return (some (.Name fo t1)) t2) (tRet (tVar 1)) := ps_ret (pe_var (show Z.N[1]? = some fo by rw [zN]; rfl) (.inl (v n2)) (dd fo (by simp)) (dc fo (by simp)))
    have s2 : PS Z (.Try [.Expr (.Call (.Name a p1) [] [] p2) p3] [.ExceptHandler (some (.Name x np)) (some er) [.Assign [.Name fo r1] (.Name er r2) r3] pos'] [] [] tpos) (fun D σ H => tAct G X l mk ρ0 σ0 (wK Z.K (.ref CS) 2 (fun _ _ _ => tAsg (tVar 2) (gName 1)) D) D σ H) := by
      refine ps_tryK (tb := tAct G X l mk ρ0 σ0) (ts := fun _ _ _ => tAsg (tVar 2) (gName 1)) (i := 2) (by rw [← hZ]; rfl) (by rw [← hZ]; rfl) (by rw [← hZ]; rfl) znd (show Z.N[2]? = some er by rw [zN]; rfl) (v n3) gx mgx (dd x (by simp)) (fun W pn xe tk' => ?_) fun a' oe cls d pn => ?_
      · refine pss_one ((ps_expr (pe_actF (Y := Z.tr pn xe) (W := W) (ρ0 := ρ0) (p1 := p1) (p2 := p2) ?_ F O tk' ?_ (by rw [← hZ]; rfl) (by rw [← hZ]; rfl) (by rw [← hZ]; rfl) (show Z.N[0]? = some a by rw [zN]; rfl) (.inl (v n1)) (dd a (by simp)) (dc a (by simp))) (by first | rfl | (rw [← hZ]; rfl))).imp fun D σ H h => h)
        · rw [← hZ]
          exact hc
        · rw [← hZ]
          exact hr'
      · exact pss_one (ps_set (X := Z.suite a' ((a', oe) :: pn)) znd (show Z.N[1]? = some fo by rw [zN]; rfl) (.inl (v n2)) (pe_var (show Z.N[2]? = some er by rw [zN]; rfl) (.inl (v n3)) (dd er (by simp)) (dc er (by simp))) (by first | rfl | (rw [← hZ]; rfl)) (.inr (v n2)))
    refine ⟨_, pss_cons s1 (pss_cons s2 (pss_one s3)), ?_⟩
    show ∃ f', _ ∧ _
    refine ⟨f, rfl, ι, h, rh, re, la, ?_⟩
    unfold caughtTo at m
    cases em : mk ρ0 h with
    | ok y h2 =>
      rw [em] at m
      exact fun ι' v H' x' r' _ => ⟨.non, rfl, m ι' .non H' x' r' .non⟩
    | err c fs h2 =>
      rw [em] at m
      dsimp only at m
      split at m
      case isFalse => exact m.elim
      rename_i hce
      intro ι' H' C d x' r' gC ex
      refine ⟨by rw [zK]; exact herr c hce C gC, fun a' na => ?_⟩
      refine ⟨.ref a', rfl, fun oe hz hfl na' => ⟨.ref a', rfl, ?_⟩⟩
      obtain ⟨vs, hvs⟩ := hfl
      exact m ι' _ _ (x'.trans (Ext.fresh na)) (r'.fresh na) ⟨a', C, oe, vs, rfl, gC, upd_same, hz.1, hvs, by rw [hz.2]; exact ex.2, ex.1⟩
    | bad =>
      rw [em] at m
      exact m.elim
  refine wpAny_call (codeAny_mono run fun r s' hq => ?_)
  cases r with
  | error e => exact passAt tk σ pins H s e s' I hq
  | ok fl =>
    cases fl with
    | ret u => exact I.after hq
    | next => exact False.elim hq
    | brk => exact False.elim hq
    | cont => exact False.elim hq
end
end Q

set_option Elab.async false
set_option maxRecDepth 100000
set_option linter.all false
set_option autoImplicit false
/-! QW: a comprehension whose block knows its maker's names; calls of the def that catches. -/
namespace Q
open PySem PySem.Spec PyProof.Rows L2 LamX

/-- the state at which a block of X begins: X's own invariant holds there, at σ -/
def BlkAt (X : Cx) (σ : L2.St) (s : Shared) (H : Hp) (fp : List Addr) : Prop := (∃ pins, Inv X pins σ H s) ∧ ∀ b ∈ fp, ∀ y c, X.env.cells.lookup y = some c → c ≠ b
section
variable {X : Cx} {elt tg iter : Expr} {ifs : List Expr} {scope : Scope} {own : List (Str × Nat)} {pos : Pos} {wi : TI} {g : TG} {tt : TT} {te : TE}
/-- one state of the block's loop -/
def BlkSt (Y : Cx) (σ : L2.St) (fp : List Addr) (tn : Nat → Heap → Prop) (V : Nat → Nat → Hp → Prop) (n : Nat) (s : Shared) : Prop := ∃ i H', Inv Y [] σ H' s ∧ tn i s.heap ∧ (∀ b ∈ fp, H' b = none) ∧ V i n H'
theorem lc_own {pins : List (Addr × Obj)} {s : Shared} {σ : L2.St} {H : Hp} {Q : VK} (hc : X.calm = true) (hN : X.N.Nodup) (I : Inv X pins σ H s) (hi : PI X tg iter wi) (ok : BlkOk X.N X.env.scope scope own)
    (hg : ∀ (s : Shared) (H : Hp) (C : Addr) (cl : List (Str × Addr)) (fp : List Addr), PG (X.blk s H scope (compEnvC scope cl C X.env) fp) tg g)
    (ht : ∀ (s : Shared) (H : Hp) (C : Addr) (cl : List (Str × Addr)) (fp : List Addr), BlkAt X σ s H fp → PTs (X.blk s H scope (compEnvC scope cl C X.env) fp) ifs tt)
    (he : ∀ (s : Shared) (H : Hp) (C : Addr) (cl : List (Str × Addr)) (fp : List Addr), BlkAt X σ s H fp → PE (X.blk s H scope (compEnvC scope cl C X.env) fp) elt te) (hs : ∀ x, foldedSetIterable iter X.env x = pure x)
    (h : tLc wi g tt te (own.map (·.2)) σ H Q) : wpAny (model X.prog X.w) X.A (eval (.ListComp elt [⟨tg, iter, ifs, 0⟩] scope pos) X.env) (EP X pins σ Q) X.xe s := by
  rw [eval_ListComp]
  have free : ∀ y ∈ scope.names, y.2 = .free → ∃ c, X.env.cells.lookup y.1 = some c := fun y hy e => (ok.free y hy e).elim (fun k => I.ok.has _ (.inl k)) fun k => I.ok.has _ (.inr k)
  refine wpAny_comprehension_free rfl hs (closure_ok free) ok.kind (fun y hy e => by rw [ok.uniq y hy, e]) (thn (hi.run pins s σ H _ I h) fun xv s1 hx => thn hx fun itv s2 h2 => ?_)
  obtain ⟨it, fp, tn, J, H2, rfl, I2, T, t0, f0, q⟩ := h2
  refine wpAny_newObj_type (newEnv_comp ?_) (by show 0 ≤ sizeLine; decide)
  obtain ⟨V, ⟨m0, v0⟩, turn⟩ := q s2.heap.objs.size (I2.hok.fresh (Nat.le_refl _))
  -- the list and the block's frame are laid
  obtain ⟨sL, eL⟩ : ∃ sL : Shared, sL = { s2 with heap := s2.heap.push { cls := .type "list", data := .seq ([] : List Value).toArray } } := ⟨_, rfl⟩
  obtain ⟨HL, eH⟩ : ∃ HL : Hp, HL = upd H2 s2.heap.objs.size (.lst []) := ⟨_, rfl⟩
  have IL : Inv X pins σ HL sL := by
    rw [eL, eH]
    exact I2.laid (t' := s2.toks) (fun b o e => Heap.get?_push_of_some _ e) (Nat.le_refl _) ⟨Nat.zero_le _, [], 0, .nil, Heap.get?_push_size _ rfl⟩
  have kL : ∀ b o, s2.heap.get? b = some o → sL.heap.get? b = some o := fun b o e => by
    rw [eL]
    exact Heap.get?_push_of_some _ e
  have lt2 : ∀ b ∈ fp, b < s2.heap.objs.size := fun b hb => by
    obtain ⟨o, e, _⟩ := T.obj _ _ t0 b hb
    exact Heap.lt_size e
  have fL : ∀ b ∈ fp, FpOk X pins HL b ∧ b < sL.heap.objs.size := fun b hb => by
    have l := lt2 b hb
    refine ⟨⟨?_, (f0 b hb).2⟩, by rw [eL]; show b < (s2.heap.push _).objs.size; rw [Heap.size_push]; exact Nat.lt_succ_of_lt l⟩
    rw [eH, upd_ne (Nat.ne_of_lt l)]
    exact (f0 b hb).1
  have at0 : BlkAt X σ sL HL fp := ⟨⟨pins, IL⟩, fun b hb y c e => (fL b hb).1.2.2.2.2.1 y c e⟩
  have IB := block_start IL ok hN fL
  have pg := hg sL HL sL.heap.objs.size (cellsFrom (sL.heap.objs.size + 1) scope.names (cloFrom X.env.cells scope.names [])) fp
  have pt := ht sL HL sL.heap.objs.size (cellsFrom (sL.heap.objs.size + 1) scope.names (cloFrom X.env.cells scope.names [])) fp at0
  have pe := he sL HL sL.heap.objs.size (cellsFrom (sL.heap.objs.size + 1) scope.names (cloFrom X.env.cells scope.names [])) fp at0
  rw [← eL]
  rw [← eH] at v0
  have nil0 : ∀ b ∈ fp, HL b = none := fun b hb => (fL b hb).1.1
  obtain ⟨ce, ece⟩ : ∃ ce : Env, ce = compEnvC scope (cellsFrom (sL.heap.objs.size + 1) scope.names (cloFrom X.env.cells scope.names [])) sL.heap.objs.size X.env := ⟨_, rfl⟩
  obtain ⟨sB, eB⟩ : ∃ sB : Shared, sB = { sL with heap := pushCells (sL.heap.push { cls := .type "dict", data := .dict #[] }) scope.names } := ⟨_, rfl⟩
  rw [← ece] at IB pg pt pe
  rw [← eB] at IB
  have tB : tn 0 sB.heap := T.keep _ _ _ t0 fun b _ o e => by
    rw [eB]
    exact pushCells_keeps _ _ _ _ (Heap.get?_push_of_some _ (kL b o e))
  have loc : ce.locals = sL.heap.objs.size := by rw [ece]; rfl
  show codeAny _ _ (.compStart (.ListComp elt [⟨tg, iter, ifs, 0⟩] scope pos) 0 (.ref it) (.ref s2.heap.objs.size) (compEnvC scope (cellsFrom (sL.heap.objs.size + 1) scope.names (cloFrom X.env.cells scope.names [])) sL.heap.objs.size X.env)) _ { sL with heap := pushCells (sL.heap.push { cls := .type "dict", data := .dict #[] }) scope.names }
  rw [← ece, ← eB]
  have fpY : ∀ {σ' : L2.St} {H' : Hp} {s' : Shared}, Inv (X.blk sL HL scope ce fp) [] σ' H' s' → (∀ b ∈ fp, H' b = none) → ∀ b ∈ fp, FpOk (X.blk sL HL scope ce fp) [] H' b := fun {σ' H' s'} J' hn b hb =>
    ⟨hn b hb, (J'.ok.exf b hb).1, J'.ok.exfs b hb, .inl hb, (J'.ok.exf b hb).2, fun p hp => absurd (show p ∈ ([] : List (Addr × Obj)) ++ [] from hp) (by simp)⟩
  have loop : codeAny (model X.prog X.w) X.A (.compLoop (.ListComp elt [⟨tg, iter, ifs, 0⟩] scope pos) 0 (.ref it) (.ref s2.heap.objs.size) ce) (compPost (model X.prog X.w) X.A X.xe none (EP X pins σ Q) (.ref s2.heap.objs.size) sL.heap.objs.size) sB := by
    refine compLoop_any (BlkSt (X.blk sL HL scope ce fp) (wipe σ (own.map (·.2))) fp tn V) ?_ m0 ⟨0, HL, IB, tB, nil0, v0⟩
    rintro n s5 ⟨i, H5, I5, t5, n5, v5⟩
    rcases turn i n H5 v5 with ⟨stop, qq⟩ | ⟨go, Nx, hNx, step⟩
    · refine thnF (T.done (X.blk sL HL scope ce fp) rfl rfl rfl hc i [] s5 _ H5 (fun _ _ => False) I5 (fpY I5 n5) t5 stop) fun r s6 hr => ?_
      obtain ⟨rfl, I6⟩ := hr
      -- the maker's frame again
      have I7 : Inv X pins σ H5 s6 := IL.call' (ch := fp) I6.os I6.base I6.hok I6.bare fun b hb => ⟨(fL b hb).1.2.2.2.1, (fL b hb).1.2.1, (fL b hb).1.2.2.2.2.1, (fL b hb).1.2.2.2.2.2⟩
      have nC : H5 sL.heap.objs.size = none := by rw [← loc]; exact I6.free
      obtain ⟨m, hn, _⟩ := I6.loc
      have hn : s6.heap.Ns ce.locals m := hn
      rw [loc] at hn
      obtain ⟨g0, g1, g2, g3, g4, g5⟩ := IL.fpOk (H' := H5) (Nat.le_refl _) nC
      exact ⟨m, hn, fun h'' sb => ⟨.ref s2.heap.objs.size, H5, I7.turned (t' := s6.toks) (fun b o hb e => (sb.2 b hb).trans e) g0 g1 g3 g4 g5, rfl, qq⟩⟩
    · refine thnF (T.item (X.blk sL HL scope ce fp) rfl rfl rfl hc i [] s5 _ H5 (fun _ _ => False) I5 (fpY I5 n5) t5 go) fun r s6 hr => ?_
      obtain ⟨u, rfl, h6⟩ := hr
      refine thnF h6 fun _ s7 h7 => ?_
      obtain ⟨x, H7, I7, r7, y7, t7, n7⟩ := h7
      have P7 := I7.pinned (fpY I7 n7) (T.obj _ _ t7)
      refine thnF (pg.run _ s7 _ H7 x u _ P7 r7 (step x H7 y7)) fun _ s8 h8 => ?_
      obtain ⟨σ8, H8, I8, w8, q8⟩ := h8
      refine thnF (pt.run _ s8 σ8 H8 _ I8 q8) fun b s9 h9 => ?_
      obtain ⟨H9, I9, q9⟩ := h9
      have next : ∀ {s' : Shared} {H' : Hp}, Inv (X.blk sL HL scope ce fp) ([] ++ pinsAt fp s7.heap) σ8 H' s' → Nx H' → ∃ m, m < n ∧ BlkSt (X.blk sL HL scope ce fp) (wipe σ (own.map (·.2))) fp tn V m s' := fun {s' H'} J' nx => by
        obtain ⟨m', lt, v'⟩ := hNx H' nx
        have still : ∀ b ∈ fp, ∀ o, s7.heap.get? b = some o → s'.heap.get? b = some o ∧ H' b = none := fun b hb o e =>
          ⟨(J'.pin (b, o) (List.mem_append_right _ (List.mem_append_right _ (mem_pinsAt hb e)))).1, (J'.pin (b, o) (List.mem_append_right _ (List.mem_append_right _ (mem_pinsAt hb e)))).2.1⟩
        refine ⟨m', lt, i + 1, H', (J'.unpinned (pins := [])).weak (by rw [← w8, wipe_length]) (fun j z e => by rw [← w8] at e; exact (wipe_some e).1), T.keep _ _ _ t7 fun b hb o e => (still b hb o e).1, fun b hb => ?_, v'⟩
        obtain ⟨o, e, _⟩ := T.obj _ _ t7 b hb
        exact (still b hb o e).2
      cases b with
      | false => exact next I9 (by simpa using q9)
      | true =>
        have q9 := (by simpa using q9 : te σ8 H9 _)
        refine thnF (pe.run _ s9 σ8 H9 _ I9 q9) fun z s10 h10 => ?_
        obtain ⟨yv, H10, I10, r10, acc, d10, z10, nx⟩ := h10
        exact app_ok (X := X.blk sL HL scope ce fp) I10 d10 z10 r10 fun s11 I11 => next I11 nx
  exact codeAny_compStart_list loop (T.self X.A 0 _ _ _ tB loop)
end
end Q

set_option Elab.async false
set_option maxRecDepth 100000
set_option linter.all false
set_option autoImplicit false
/-! QX: caught(..) as an expression, in the maker's frame and in its comprehensions. -/
namespace Q
open PySem PySem.Spec PyProof.Rows L2 LamX

/-- the names whose values bear no closure -/
def flatE (ρ : Env') : Env' := ρ.map fun o => match o with
  | some w => if w.flat = true then some w else none
  | none => none
theorem RlE.flat {G : Gd} {ι : Io} {ρ : Env'} {σ : L2.St} {H : Hp} (r : RlE G ι ρ σ H) : RlE G.bare ι (flatE ρ) σ H := ⟨by unfold flatE; rw [List.length_map]; exact r.len, fun i w hw => by
  unfold flatE at hw
  rw [List.getElem?_map] at hw
  cases e : ρ[i]? with
  | none => rw [e] at hw; cases hw
  | some o =>
    rw [e] at hw
    cases o with
    | none => cases hw
    | some w' =>
      have hw : (if w'.flat = true then some w' else none) = some w := Option.some.inj hw
      split at hw
      · rename_i f
        cases hw
        obtain ⟨v, h1, h2⟩ := r.get i w e
        exact ⟨v, h1, h2.down f⟩
      · cases hw⟩
/-- caught(m) -/
def eCaught (errs : List String) (bodies : List SemE) (m : SemE) : SemE := fun ρ h => (m ρ h).bind fun x h1 => match x with
  | .clo k => match bodies[k]? with
    | some mk => caughtTo errs (mk (flatE ρ) h1)
    | none => .bad
  | _ => .bad
def eCaughtB (errs : List String) (bodies : List SemE) (ρ0 : Env') (m : SemE) : SemE := fun ρ h => (m ρ h).bind fun x h1 => match x with
  | .clo k => match bodies[k]? with
    | some mk => caughtTo errs (mk ρ0 h1)
    | none => .bad
  | _ => .bad
/-- all the lambdas of a frame -/
def LamsOk (G : Gd) (X : Cx) (k : Nat) (ls : List LamI) (bodies : List SemE) : Prop := ∀ (n : Nat) (l : LamI), ls[n]? = some l → ∃ mk, bodies[n]? = some mk ∧ LamOk G X k l mk
theorem CellF.unX {cs : List (Str × Addr)} {N : List Str} {sc : Scope} {σ0 : L2.St} {H HZ : Hp} {h h' : Heap} {fs ex : List Addr} (F : CellF cs N sc σ0 H h) (u : Un fs ex H HZ h h') (nx : ∀ y c, cs.lookup y = some c → c ∉ ex) : CellF cs N sc σ0 HZ h' := by
  have keep : ∀ {c : Addr} {v : Option Value}, H c = none → c ∉ ex → h.IsCell c v → h'.IsCell c v := fun {c v} n hx ⟨o, ho, hd⟩ => by
    obtain ⟨sl, q⟩ := u.any ho n hx
    exact ⟨_, q, hd⟩
  refine ⟨F.inj, F.has, fun y c e => ?_, fun i y v h1 h2 h3 => ?_, F.len⟩
  · obtain ⟨n, v, z⟩ := F.cel y c e
    obtain ⟨o, ho, _⟩ := id z
    exact ⟨u.free c o ho n (nx y c e), v, keep n (nx y c e) z⟩
  · obtain ⟨w, c, r, e, z⟩ := F.val i y v h1 h2 h3
    exact ⟨w, c, r, e, keep (F.cel y c e).1 (nx y c e) z⟩
section
variable {G : Gd} {X : Cx} {k : Nat} {ls : List LamI} {bodies : List SemE} {errs : List String} {g : Addr} {e : Expr} {m : SemE} {p pos : Pos}
theorem je_caught {fn : String} (D : CaughtDef X (Str.ofString fn) g errs G.mg) (hr : Room (k + 2) X.A) (O : LamsOk G X k ls bodies) (hG : ∀ n ι H v, G.cl.p n ι H v → cloP (X.env.qual ++ "<lambda>") X.env.cells ls n H v) (hg : Gl X (Str.ofString fn)) (ha : JE G X m e) (hdb : (Str.ofString fn == ("__debug__" : Str)) = false := by decide)
    (hs : starEach [e] X.env = (false, eval e X.env) :: starEach [] X.env := by rfl) (hpl : (backTo pos (starEach [] X.env)).any (·.1) = false := by rfl) : JE G X (eCaught errs bodies m) (.Call (.Name (Str.ofString fn) p) [e] [] pos) := fun U t => by
  constructor
  intro pins s σ H Q I h
  refine wpAny_Call_Name_kw (ld_glob I hg D.gm ?_ hdb)
  have h' : rdE G U m σ H fun v H1 => ∃ (ι1 : Io) (ρ : Env') (n : Nat) (h1 : AH) (mk : SemE), RlH G ι1 h1 H1 ∧ RlE G ι1 ρ σ H1 ∧ G.cl.p n ι1 H1 v ∧ bodies[n]? = some mk ∧ (caughtTo errs (mk (flatE ρ) h1)).to (okP G ι1 H1 Q) (erP G ι1 H1 (xk U σ)) := by
    refine rd_bind (k := fun x ρ h1 => match x with
      | .clo k => match bodies[k]? with
        | some mk => caughtTo errs (mk (flatE ρ) h1)
        | none => .bad
      | _ => .bad) h fun ι ι1 ρ x h1 v H1 e1 r1 re1 v1 m1 => ?_
    split at m1
    · rename_i n
      split at m1
      · rename_i mk hk
        exact ⟨ι1, ρ, n, h1, mk, r1, re1, v1, hk, m1⟩
      · exact m1.elim
    · exact m1.elim
  have arg := (pa_cons ((ha U t)) pa_nil hs).run pos pins s σ H (fun vs H1 => ∃ v, vs = [v] ∧ ∃ (ι1 : Io) (ρ : Env') (n : Nat) (h1 : AH) (mk : SemE), RlH G ι1 h1 H1 ∧ RlE G ι1 ρ σ H1 ∧ G.cl.p n ι1 H1 v ∧ bodies[n]? = some mk ∧ (caughtTo errs (mk (flatE ρ) h1)).to (okP G ι1 H1 Q) (erP G ι1 H1 (xk U σ))) I (by
    obtain ⟨ι, ρ, h0, rh, re, q⟩ := h'
    exact ⟨ι, ρ, h0, rh, re, Out.to_mono q (fun x h1 z ι1 v H1 e1 r1 v1 => ⟨v, rfl, z ι1 v H1 e1 r1 v1⟩) fun _ _ _ z => z⟩)
  refine PySem.W.callWith_K (h₀ := X.base) I.ok.mod.kin D.kp (thn arg fun us s1 hv => ?_) hs hpl
  obtain ⟨vs, H1, I1, r, v, rfl, ι1, ρ, n, h1, mk, r1, re1, c1, hk, m1⟩ := hv
  obtain ⟨l, f, hl, rfl, la⟩ := hG n ι1 H1 v c1
  obtain ⟨mk', hk', ok⟩ := O n l hl
  rw [hk] at hk'
  cases hk'
  obtain ⟨u, rfl, ru⟩ := r.one
  cases ru
  exact ⟨I1.kIn, caught_run (X := X) (ρ0 := flatE ρ) (σ0 := σ) ⟨rfl, rfl, rfl, rfl, rfl⟩ D I1 t hr (cellF_of I1 ok.L) ok r1.bare re1.flat la (toBare m1)⟩
/-- .. within a comprehension of the maker: the frame's names are those at the block's start -/
theorem je_caughtB {fn : String} {ρ0 : Env'} {σ0 : L2.St} {s : Shared} {H : Hp} {scope : Scope} {env : Env} {fp : List Addr} (at0 : BlkAt X σ0 s H fp) (D : CaughtDef (X.blk s H scope env fp) (Str.ofString fn) g errs G.mg) (hr : Room (k + 2) X.A) (O : LamsOk G X k ls bodies)
    (hg : Gl (X.blk s H scope env fp) (Str.ofString fn)) (ha : JE (G.with (Clo.at (X.env.qual ++ "<lambda>") X.env.cells ls G ρ0 σ0)) (X.blk s H scope env fp) m e) (hdb : (Str.ofString fn == ("__debug__" : Str)) = false := by decide)
    (hs : starEach [e] env = (false, eval e env) :: starEach [] env := by rfl) (hpl : (backTo pos (starEach [] env)).any (·.1) = false := by rfl) : JE (G.with (Clo.at (X.env.qual ++ "<lambda>") X.env.cells ls G ρ0 σ0)) (X.blk s H scope env fp) (eCaughtB errs bodies ρ0 m) (.Call (.Name (Str.ofString fn) p) [e] [] pos) := fun U t => by
  constructor
  intro pins s' σ H' Q I h
  refine wpAny_Call_Name_kw (ld_glob I hg D.gm ?_ hdb)
  obtain ⟨G', eG⟩ : ∃ G' : Gd, G' = G.with (Clo.at (X.env.qual ++ "<lambda>") X.env.cells ls G ρ0 σ0) := ⟨_, rfl⟩
  have eB : G'.bare = G.bare := by rw [eG]; rfl
  rw [← eG] at ha h
  have h' : rdE G' U m σ H' fun v H1 => ∃ (ι1 : Io) (n : Nat) (h1 : AH) (mk : SemE), RlH G' ι1 h1 H1 ∧ G'.cl.p n ι1 H1 v ∧ bodies[n]? = some mk ∧ (caughtTo errs (mk ρ0 h1)).to (okP G' ι1 H1 Q) (erP G' ι1 H1 (xk U σ)) := by
    refine rd_bind (k := fun x ρ h1 => match x with
      | .clo k => match bodies[k]? with
        | some mk => caughtTo errs (mk ρ0 h1)
        | none => .bad
      | _ => .bad) h fun ι ι1 ρ x h1 v H1 e1 r1 re1 v1 m1 => ?_
    split at m1
    · rename_i n
      split at m1
      · rename_i mk hk
        exact ⟨ι1, n, h1, mk, r1, v1, hk, m1⟩
      · exact m1.elim
    · exact m1.elim
  have arg := (pa_cons ((ha U t)) pa_nil hs).run pos pins s' σ H' (fun vs H1 => ∃ v, vs = [v] ∧ ∃ (ι1 : Io) (n : Nat) (h1 : AH) (mk : SemE), RlH G' ι1 h1 H1 ∧ G'.cl.p n ι1 H1 v ∧ bodies[n]? = some mk ∧ (caughtTo errs (mk ρ0 h1)).to (okP G' ι1 H1 Q) (erP G' ι1 H1 (xk U σ))) I (by
    obtain ⟨ι, ρ, h0, rh, re, q⟩ := h'
    exact ⟨ι, ρ, h0, rh, re, Out.to_mono q (fun x h1 z ι1 v H1 e1 r1 v1 => ⟨v, rfl, z ι1 v H1 e1 r1 v1⟩) fun _ _ _ z => z⟩)
  refine PySem.W.callWith_K (h₀ := X.base) I.ok.mod.kin D.kp (thn arg fun us s1 hv => ?_) hs hpl
  obtain ⟨vs, H1, I1, r, v, rfl, ι1, n, h1, mk, r1, c1, hk, m1⟩ := hv
  rw [eG] at c1
  obtain ⟨⟨l, f, hl, rfl, la⟩, re0⟩ := c1
  obtain ⟨mk', hk', ok⟩ := O n l hl
  rw [hk] at hk'
  cases hk'
  obtain ⟨u, rfl, ru⟩ := r.one
  cases ru
  obtain ⟨⟨pins0, I0⟩, nfp⟩ := at0
  have F1 := (cellF_of I0 ok.L).unX I1.base fun y c e hx => nfp c hx y c e rfl
  have r1' := r1.bare
  have m1' := toBare m1
  rw [eB] at r1' m1'
  exact ⟨I1.kIn, caught_run (X := X) (B := X.blk s H scope env fp) (ρ0 := ρ0) (σ0 := σ0) ⟨rfl, rfl, rfl, rfl, rfl⟩ D I1 t hr F1 ok r1' re0 la m1'⟩
/-! ### the comprehension -/
noncomputable def eCompC (own : List Nat) (mi : SemI) (g : SemG) (mt : Env' → SemT) (me : Env' → SemE) : SemE := fun ρ h => (mi ρ h).bind fun p h1 => (compL p.2 g (mt (flatE ρ)) (me (flatE ρ)) (wipR ρ own) p.1 h1).bind fun ys h2 => .ofOpt ((allD ys).map fun ds => .d (.list ds)) h2
theorem RepW.at {q : Str} {cs : List (Str × Addr)} {ρ0 : Env'} {σ0 : L2.St} {ι : Io} {H : Hp} {w : W} {v : V} (hG : ∀ n ι H v, G.cl.p n ι H v → cloP q cs ls n H v) (re : RlE G.bare ι ρ0 σ0 H) (r : RepW G ι H w v) : RepW (G.with (Clo.at q cs ls G ρ0 σ0)) ι H w v := by
  cases w with
  | d x => exact r
  | ref i => exact r
  | exc c fs => exact r
  | clo k => exact ⟨hG k ι H v r, re⟩
  | clos ks =>
    obtain ⟨a, o, vs, h1, h2, h3⟩ := r
    exact ⟨a, o, vs, h1, h2, paired_mono (fun k v h => ⟨hG k ι H v h, re⟩) h3⟩
theorem compL_noerr {chk : AH → Prop} {g : SemG} {mt : SemT} {me : SemE} {ρ : Env'} {c : String} {fs : List (String × PyData)} {h2 : AH} : ∀ (ws : List W) (h1 : AH), compL chk g mt me ρ ws h1 ≠ .err c fs h2
  | [], h1, e => by
    unfold compL at e
    split at e <;> cases e
  | x :: xs, h1, e => by
    unfold compL at e
    split at e
    · split at e
      · split at e
        · split at e
          · split at e <;> cases e
          · cases e
        · exact compL_noerr xs _ e
        · cases e
      · cases e
    · cases e
theorem je_compC {elt tg iter : Expr} {ifs : List Expr} {scope : Scope} {own : List (Str × Nat)} {mi : SemI} {g : SemG} {sl : List Nat} {mt : Env' → SemT} {me : Env' → SemE} (hc : X.calm = true) (hN : X.N.Nodup) (hi : JI G X mi tg iter) (ok : BlkOk X.N X.env.scope scope own) (hsl : ∀ i ∈ sl, i ∈ own.map (·.2))
    (hG : ∀ n ι H v, G.cl.p n ι H v → cloP (X.env.qual ++ "<lambda>") X.env.cells ls n H v)
    (hg : ∃ r : TG, (∀ (s : Shared) (H : Hp) (C : Addr) (cl : List (Str × Addr)) (fp : List Addr), PG (X.blk s H scope (compEnvC scope cl C X.env) fp) tg r) ∧ ∀ (G : Gd) (ι : Io) (H : Hp) (x : W) (v : V) (ρ ρ' : Env') (σ : L2.St) (Q : L2.St → Hp → Prop), RlE G ι ρ σ H → RepW G ι H x v → g x ρ = some ρ' → (∀ σ', RlE G ι ρ' σ' H → Sets sl σ σ' → Q σ' H) → r v σ H Q)
    (ht : ∀ (ρ0 : Env') (σ0 : L2.St) (s : Shared) (H : Hp) (C : Addr) (cl : List (Str × Addr)) (fp : List Addr), BlkAt X σ0 s H fp → JTs (G.with (Clo.at (X.env.qual ++ "<lambda>") X.env.cells ls G ρ0 σ0)) (X.blk s H scope (compEnvC scope cl C X.env) fp) (mt ρ0) ifs)
    (he : ∀ (ρ0 : Env') (σ0 : L2.St) (s : Shared) (H : Hp) (C : Addr) (cl : List (Str × Addr)) (fp : List Addr), BlkAt X σ0 s H fp → JE (G.with (Clo.at (X.env.qual ++ "<lambda>") X.env.cells ls G ρ0 σ0)) (X.blk s H scope (compEnvC scope cl C X.env) fp) (me ρ0) elt) (hs : ∀ x, foldedSetIterable iter X.env x = pure x := by intro _; rfl) :
    JE G X (eCompC (own.map (·.2)) mi g mt me) (.ListComp elt [⟨tg, iter, ifs, 0⟩] scope pos) := fun U t => by
  obtain ⟨r, pg, kg⟩ := hg
  have P : PE X (.ListComp elt [⟨tg, iter, ifs, 0⟩] scope pos) (fun σ H Q => ∃ ρ0 : Env', tLc (rdI G U mi) r (rdT (G.with (Clo.at (X.env.qual ++ "<lambda>") X.env.cells ls G ρ0 σ)) U0 (mt ρ0)) (rdE (G.with (Clo.at (X.env.qual ++ "<lambda>") X.env.cells ls G ρ0 σ)) U0 (me ρ0)) (own.map (·.2)) σ H Q) :=
    ⟨fun pins s σ H Q I ⟨ρ0, h⟩ => lc_own hc hN I (hi U t) ok pg (fun s H C cl fp a => ht ρ0 σ s H C cl fp a U0 L2.takes0) (fun s H C cl fp a => he ρ0 σ s H C cl fp a U0 L2.takes0) hs h⟩
  refine (pe_frz P).imp fun σ H Q h => ?_
  obtain ⟨ι, ρ, h0, rh, re, q⟩ := h
  refine ⟨flatE ρ, ?_⟩
  unfold eCompC at q
  rw [to_bind] at q
  refine ⟨ι, ρ, h0, rh, re, Out.to_mono q (fun p h1 z ι1 H1 J e1 r1 jok hl D nD => ?_) fun _ _ _ z => z⟩
  obtain ⟨ws, chk⟩ := p
  dsimp only at z
  have re1 := re.mono e1
  have re0 : RlE G.bare ι1 (flatE ρ) σ H1 := re1.flat
  obtain ⟨G', eG⟩ : ∃ G' : Gd, G' = G.with (Clo.at (X.env.qual ++ "<lambda>") X.env.cells ls G (flatE ρ) σ) := ⟨_, rfl⟩
  rw [← eG]
  have to' : ∀ {ι : Io} {h : AH} {H : Hp}, RlH G ι h H → RlH G' ι h H := fun r => by
    have := r.bare
    rw [show G.bare = G'.bare by rw [eG]; rfl] at this
    exact this.full
  have of' : ∀ {ι : Io} {h : AH} {H : Hp}, RlH G' ι h H → RlH G ι h H := fun r => by
    have := r.bare
    rw [show G'.bare = G.bare by rw [eG]; rfl] at this
    exact this.full
  have up' : ∀ {ι : Io} {H : Hp} {w : W} {v : V}, Ex0 ι1 H1 ι H → RepW G ι H w v → RepW G' ι H w v := fun x r => by
    rw [eG]
    exact r.at hG (re0.mono0 x)
  cases ec : compL chk g (mt (flatE ρ)) (me (flatE ρ)) (wipR ρ (own.map (·.2))) ws h1 with
  | bad => rw [ec] at z; exact z.elim
  | err c fs h2 => exact absurd ec (compL_noerr ws h1)
  | ok ys h2 =>
    rw [ec] at z
    obtain ⟨w, ew, k⟩ := to_ofOpt z
    cases hd : allD ys with
    | none => rw [hd] at ew; cases ew
    | some ds =>
      rw [hd] at ew
      cases ew
      have jok' : ItOk G' J ι1 H1 ws chk := ⟨fun ι h H i x r c hi => jok.go ι h H i x (of' r) c hi, fun ι h H i v H' x r c hi y => by
        obtain ⟨x1, x2, w, x3, x4⟩ := jok.yld ι h H i v H' x (of' r) c hi y
        exact ⟨x1, to' x2, w, x3, up' (Ex0.trans x x1.lo) x4⟩, fun ι h H x r c => jok.stop ι h H x (of' r) c⟩
      have re' : RlE G' ι1 ρ σ H1 := ⟨re1.len, fun i w hw => by
        obtain ⟨v, q1, q2⟩ := re1.get i w hw
        exact ⟨v, q1, up' Ext.refl.lo q2⟩⟩
      refine comp_core (G := G') (U := U0) jok' hl (to' r1) re' hsl nD (kg G') (fun _ _ _ _ z => z) ec fun ι' H' vs e2 r2 hD rv nj => .inr ⟨D, vs, rfl, hD, fun o => ?_⟩
      have rd : RepDs G.K H' vs ds := by
        have := allD_rep hd rv
        rw [show G'.K = G.K by rw [eG]; rfl] at this
        exact this
      have lo : Loose H' D := loose_lst hD
      have no : ∀ ps, frzO vs o ≠ .tbl ps := fun ps z => by unfold frzO at z; cases z
      exact k ι' _ _ ((e1.trans e2).after (e1.none_back nD) lo no) ((of' r2).off nj lo) (.lst upd_same (RepDs.mono (Stb.write lo) _ _ rd))
end
end Q

set_option Elab.async false
set_option maxRecDepth 100000
set_option linter.all false
set_option autoImplicit false
/-! QY: defs with lambdas, facts of the text, the end. -/
namespace Q
open PySem PySem.Spec PyProof.Rows L2 LamX

theorem hu70 {k : Nat} {A : Around} (r : Room k A) : A.units + 70 < cLine := by
  have := r.un
  omega
/-! ### defs -/
/-- a def that makes lambdas: what it returns bears none -/
def mkFnL (n : Nat) (b : SemS) : Fn := fun ws h => match b (ws.map some ++ List.replicate (n - ws.length) none) h with
  | .nx _ h' => .ok (.d .none) h'
  | .rt x h' => if x.flat = true then .ok x h' else .bad
  | .err c fs h' => .err c fs h'
  | _ => .bad
theorem start_get {G : Gd} {ι : Io} {H : Hp} {N : List Str} {ws : List W} {vs : List V} {n : Nat} (hn : N.length = n) (r : RepWs G ι H ws vs) : RlE G ι (ws.map some ++ List.replicate (n - ws.length) none) (L2.start N vs) H := by
  refine ⟨?_, fun i y hy => ?_⟩
  · unfold L2.start
    rw [List.length_append, List.length_append, List.length_map, List.length_map, List.length_replicate, List.length_replicate, r.length, hn]
  · have hi : i < ws.length := by
      by_cases hi : i < ws.length
      · exact hi
      · rw [List.getElem?_append_right (by simpa using hi), List.getElem?_replicate] at hy
        split at hy <;> cases hy
    rw [List.getElem?_append_left (by simpa using hi), List.getElem?_map] at hy
    cases e : ws[i]? with
    | none => rw [e] at hy; cases hy
    | some z =>
      rw [e] at hy
      cases hy
      obtain ⟨v, e1, r1⟩ := Paired.get1 r e
      refine ⟨v, ?_, r1⟩
      unfold L2.start
      rw [List.getElem?_append_left (by rw [List.length_map, ← r.length]; exact hi), List.getElem?_map, e1]
      rfl
theorem RlE.up {G : Gd} {ι : Io} {ρ : Env'} {σ : L2.St} {H : Hp} (r : RlE G.bare ι ρ σ H) : RlE G ι ρ σ H := ⟨r.len, fun i w hw => by
  obtain ⟨v, h1, h2⟩ := r.get i w hw
  exact ⟨v, h1, h2.up⟩⟩
/-- a def that makes lambdas; c its code object -/
theorem fn_okL {G : Gd} {P : Program} {w : World} {K : PySem.W.Frag} {mg : Str → Option Value} {base : Heap} {x qual : Str} {st : Stmt} {f c : Addr} {fd : FuncData} {N ps : List Str} {k np n : Nat} {b : SemS} {ls : List LamI} (F : L2.Fun K x qual st f fd) (hcode : fd.code = .ref c) (S : FnScope N ps (defScope st)) (hn : N.length = n) (hp : ps.length = np)
    (hbody : ∀ (A : Around) (outer : List Env) (s : Shared) (H : Hp) (E : XK), Room k (A.deeper (envOfC qual (defScope st) s.heap.objs.size f (.ref c))) →
      JSs (G.with (Clo.of ((envOfC qual (defScope st) s.heap.objs.size f (.ref c)).qual ++ "<lambda>") (envOfC qual (defScope st) s.heap.objs.size f (.ref c)).cells ls)) (cxOf (L2.CX P w) P w K mg base N qual (defScope st) f (.ref c) A outer s H E) b (defBody st)) : FnOk P w K mg base (L2.CX P w) (k + 1) f fd ps (spOf G np (mkFnL n b)) := by
  obtain ⟨oc, od, kV, doc, pm, an, cdv, ct, osl, rfl, lk, hcd⟩ := F.ex
  cases (show cdv = .ref c from hcode)
  refine fn_of lk hcd S (fun vs H Q E h => by rw [hp]; exact h.1) fun A outer s H vs Q E hr h => ?_
  obtain ⟨hl, ι, h0, ws, rh, rw0, q⟩ := h
  refine ⟨_, hbody A outer s H E hr (fun c d _ H' => E c d H') (takes_of rfl rfl rfl rfl), ι, ws.map some ++ List.replicate (n - ws.length) none, h0, RlH.full (G := G.with _) rh, RlE.up (G := G.with _) (start_get hn rw0), ?_⟩
  unfold mkFnL at q
  cases e : b (ws.map some ++ List.replicate (n - ws.length) none) h0 with
  | nx ρ' h' =>
    rw [e] at q
    exact fun ι' σ' H' e1 r1 _ => q ι' .non H' e1 r1.bare .non
  | rt y h' =>
    rw [e] at q
    dsimp only at q
    split at q
    · rename_i hf
      exact fun ι' v H' e1 r1 v1 => q ι' v H' e1 r1.bare (v1.down hf)
    · exact q.elim
  | err c fs h' =>
    rw [e] at q
    exact fun ι' σ' H' C d e1 r1 g x1 => q ι' H' C d e1 r1.bare g x1
  | bk ρ' h' => rw [e] at q; exact q.elim
  | ct ρ' h' => rw [e] at q; exact q.elim
  | bad => rw [e] at q; exact q.elim
/-- no promise: any def keeps it -/
theorem fn_bad {G : Gd} {P : Program} {w : World} {K : PySem.W.Frag} {mg : Str → Option Value} {base : Heap} {x qual : Str} {st : Stmt} {f : Addr} {fd : FuncData} {N ps : List Str} {k np : Nat} (F : L2.Fun K x qual st f fd) (S : FnScope N ps (defScope st)) (hp : ps.length = np) : FnOk P w K mg base (L2.CX P w) (k + 1) f fd ps (spOf G np (fun _ _ => .bad)) :=
  F.okX S (fun vs H Q E h => by rw [hp]; exact h.1) fun cdv A outer s H vs Q E hr h => by
    obtain ⟨_, _, _, _, _, _, q⟩ := h
    exact q.elim
theorem FnOk.lift {P : Program} {w : World} {K : PySem.W.Frag} {mg : Str → Option Value} {base : Heap} {CX : CXT} {j k : Nat} {f : Addr} {fd : FuncData} {ps : List Str} {sp : Sp} (F : FnOk P w K mg base CX j f fd ps sp) (h : j ≤ k) : FnOk P w K mg base CX k f fd ps sp := ⟨F.len, fun A outer s H args us vs Q E hr => F.run A outer s H args us vs Q E (hr.mono h)⟩
/-! ### what a def comes to, over the ground -/
def FnP (G : Gd) (P : Program) (base : Heap) (k : Nat) (x : String) (np : Nat) (fn : Fn) : Prop := ∃ (f : Addr) (fd : FuncData) (ps : List Str), G.mg (Str.ofString x) = some (.ref f) ∧ PySem.W.keepIn G.K (.ref f) = true ∧ L2.Binds G.K fd ps [] ∧ FnOk P G.w G.K G.mg base (L2.CX P G.w) k f fd ps (spOf G np fn)
def MtP (G : Gd) (P : Program) (base : Heap) (k : Nat) (C : Addr) (m : String) (np : Nat) (fn : Fn) : Prop := ∃ (f : Addr) (fd : FuncData) (ps : List Str), Meth G.K C (Str.ofString m) f ∧ L2.Binds G.K fd ps [] ∧ FnOk P G.w G.K G.mg base (L2.CX P G.w) k f fd ps (spOf G np fn)
def MkP (G : Gd) (P : Program) (base : Heap) (k : Nat) (C : Addr) (np : Nat) (fn : Fn) : Prop := ∃ (f : Addr) (fd : FuncData) (ps : List Str), Mk G.K C f ∧ L2.Binds G.K fd ps [] ∧ FnOk P G.w G.K G.mg base (L2.CX P G.w) k f fd ps (spOf G np fn)
theorem spOf_bare {G : Gd} {np : Nat} {fn : Fn} : spOf G.bare np fn = spOf G np fn := rfl
/-- a context over the ground -/
structure Over (G : Gd) (P : Program) (base : Heap) (X : Cx) : Prop where
  p : X.prog = P
  w : X.w = G.w
  K : X.K = G.K
  mg : X.mg = G.mg
  b : X.base = base
section
variable {G : Gd} {P : Program} {base : Heap} {X : Cx} {k np : Nat} {x m : String} {C : Addr} {fn : Fn}
theorem FnP.at (h : FnP G P base k x np fn) (o : Over G P base X) {G' : Gd} (g : G'.bare = G.bare) : FnX G' X k x np fn := by
  obtain ⟨f, fd, ps, h1, h2, h3, h4⟩ := h
  refine ⟨f, fd, ps, by rw [o.mg]; exact h1, by rw [o.K]; exact h2, by rw [o.K]; exact h3, ?_⟩
  rw [o.p, o.w, o.K, o.mg, o.b, ← spOf_bare, g]
  exact h4
theorem MtP.at (h : MtP G P base k C m np fn) (o : Over G P base X) {G' : Gd} (g : G'.bare = G.bare) : MtX G' X k C m np fn := by
  obtain ⟨f, fd, ps, h1, h3, h4⟩ := h
  refine ⟨f, fd, ps, by rw [o.K]; exact h1, by rw [o.K]; exact h3, ?_⟩
  rw [o.p, o.w, o.K, o.mg, o.b, ← spOf_bare, g]
  exact h4
theorem MkP.at {c : String} (h : MkP G P base k C np fn) (gc : G.mg (Str.ofString c) = some (.ref C)) (o : Over G P base X) {G' : Gd} (g : G'.bare = G.bare) : MkX G' X k c C np fn := by
  obtain ⟨f, fd, ps, h1, h3, h4⟩ := h
  refine ⟨by rw [o.mg]; exact gc, f, fd, ps, by rw [o.K]; exact h1, by rw [o.K]; exact h3, ?_⟩
  rw [o.p, o.w, o.K, o.mg, o.b, ← spOf_bare, g]
  exact h4
end
/-! ### facts of the text -/
def excCB (K : PySem.W.Frag) (C : Addr) : Bool :=
  He.eqO (PySem.W.findIn K (.ref C) "__getattribute__") (some (some (.builtin "BaseException.__getattribute__"))) && (He.eqO (PySem.W.findIn K (.ref C) "__getattr__") (some none) && (decide (PySem.W.subIn K (.ref C) (.type "BaseException") = some true) && (PySem.W.hasDictIn K C &&
    (He.eqO (PySem.W.findIn K (.ref C) "__class__") (some (some (.builtin "object.__class__"))) && (He.eqO (PySem.W.specialIn K (.builtin "object.__class__") "__get__") (some (some (.builtin "getset_descriptor.__get__"))) && (decide (PySem.W.takesIn K (.builtin "object.__class__") = some true) && decide (PySem.W.mroIn K C (.type "object") = some true)))))))
theorem excCB_ok {K : PySem.W.Frag} {C : Addr} (h : excCB K C = true) : ExcC K C := by
  unfold excCB at h
  simp only [Bool.and_eq_true, decide_eq_true_eq] at h
  obtain ⟨h1, h2, h3, h4, h5, h6, h7, h8⟩ := h
  exact ⟨He.eqO_ok h1, He.eqO_ok h2, h3, h4, He.eqO_ok h5, He.eqO_ok h6, h7, h8⟩
def insCB (K : PySem.W.Frag) (C : Addr) : Bool :=
  PySem.W.plainGet K C Str.empty && (PySem.W.hasDictIn K C && (PySem.W.plainOver K C && (He.eqO (PySem.W.findIn K (.ref C) "__setattr__") (some (some (.builtin "object.__setattr__"))) &&
    (He.eqO (PySem.W.findIn K (.ref C) "__class__") (some (some (.builtin "object.__class__"))) && (He.eqO (PySem.W.specialIn K (.builtin "object.__class__") "__get__") (some (some (.builtin "getset_descriptor.__get__"))) && (decide (PySem.W.takesIn K (.builtin "object.__class__") = some true) &&
      (decide (PySem.W.mroIn K C (.type "object") = some true) && decide (PySem.W.kitOne K (.ref C) (.ref C) = some true))))))))
theorem insCB_ok {K : PySem.W.Frag} {C : Addr} (h : insCB K C = true) : C8.InsC K C := by
  unfold insCB at h
  simp only [Bool.and_eq_true, decide_eq_true_eq] at h
  obtain ⟨h1, h2, h3, h4, h5, h6, h7, h8, h9⟩ := h
  exact ⟨⟨h1, h2, h3, He.eqO_ok h4⟩, He.eqO_ok h5, He.eqO_ok h6, h7, h8, h9⟩
/-- the classes of a text: os of instances, es of errors, subs: which comes of which -/
structure ClsT where
  os : List String
  es : List String
  subs : List (String × String)
def ClsT.all (c : ClsT) : List String := c.os ++ c.es
def ClsT.sub (c : ClsT) (a b : String) : Bool := a == b || c.subs.contains (a, b)
def gaS (K : PySem.W.Frag) (x : String) : Addr := He.ga K (Str.ofString x)
def ClsT.ok (c : ClsT) (K : PySem.W.Frag) : Bool := (c.all.all fun x => He.eqO (PySem.W.nsIn K mainGlobals (Str.ofString x)) (some (some (.ref (gaS K x))))) && ((c.os.all fun x => insCB K (gaS K x)) && ((c.es.all fun x => excCB K (gaS K x)) &&
  ((c.all.all fun x => c.all.all fun y => decide (PySem.W.kitOne K (.ref (gaS K x)) (.ref (gaS K y)) = some (c.sub x y))) && ((c.all.all fun x => basics.all fun t => decide (PySem.W.kitOne K (.ref (gaS K x)) (.type t) = some false)) && c.all.all fun x => basics.all fun t => decide (PySem.W.kitOne K (.type t) (.ref (gaS K x)) = some false)))))
structure ClsF (c : ClsT) (K : PySem.W.Frag) (mg : Str → Option Value) : Prop where
  gm : ∀ x ∈ c.all, mg (Str.ofString x) = some (.ref (gaS K x))
  ins : ∀ x ∈ c.os, C8.InsC K (gaS K x)
  exc : ∀ x ∈ c.es, ExcC K (gaS K x)
  kit : ∀ x ∈ c.all, ∀ y ∈ c.all, PySem.W.kitOne K (.ref (gaS K x)) (.ref (gaS K y)) = some (c.sub x y)
  kitB : ∀ x ∈ c.all, ∀ t ∈ basics, PySem.W.kitOne K (.ref (gaS K x)) (.type t) = some false
  kitC : ∀ x ∈ c.all, ∀ t ∈ basics, PySem.W.kitOne K (.type t) (.ref (gaS K x)) = some false
theorem ClsT.ok_ok {c : ClsT} {K : PySem.W.Frag} {h : Heap} {mg : Str → Option Value} (X : K.In h) (G : h.Ns mainGlobals mg) (e : c.ok K = true) : ClsF c K mg := by
  unfold ClsT.ok at e
  simp only [Bool.and_eq_true, List.all_eq_true, decide_eq_true_eq] at e
  obtain ⟨h1, h2, h3, h4, h5, h6⟩ := e
  exact ⟨fun x hx => PySem.W.mg_of X G (He.eqO_ok (h1 x hx)), fun x hx => insCB_ok (h2 x hx), fun x hx => excCB_ok (h3 x hx), h4, h5, h6⟩
def isiB (c : ClsT) (T : String) : Tn → Option Bool
  | .b s => subB s T
  | .o x => if x ∈ c.os then some false else none
  | .e x => if x ∈ c.es then some false else none
def isiC (c : ClsT) (T : String) : Tn → Option Bool
  | .b s => if s ∈ basics then some false else none
  | .o x => if x ∈ c.os then some (c.sub x T) else none
  | .e x => if x ∈ c.es then some (c.sub x T) else none
theorem isiB_ok {c : ClsT} {G : Gd} {X : Cx} {T : String} (hK : X.K = G.K) (F : ClsF c G.K G.mg) (hT : T ∈ basics) : IsiOk G X (.type T) (isiB c T) where
  b := fun s r hs e => by
    rw [hK]
    have key := List.all_eq_true.mp (List.all_eq_true.mp subB_kit s hs) T hT
    have key := of_decide_eq_true key
    have e : subB s T = some r := e
    rw [← key] at e
    exact kit_ty e
  o := fun x r e => by
    have e : (if x ∈ c.os then some false else none) = some r := e
    split at e
    · rename_i hx
      cases e
      have hx' : x ∈ c.all := List.mem_append_left _ hx
      exact ⟨gaS G.K x, F.gm x hx', by rw [hK]; exact F.kitB x hx' T hT, by rw [hK]; exact F.ins x hx⟩
    · cases e
  e := fun x r e => by
    have e : (if x ∈ c.es then some false else none) = some r := e
    split at e
    · rename_i hx
      cases e
      have hx' : x ∈ c.all := List.mem_append_right _ hx
      exact ⟨gaS G.K x, F.gm x hx', by rw [hK]; exact F.kitB x hx' T hT, by rw [hK]; exact F.exc x hx⟩
    · cases e
theorem isiC_ok {c : ClsT} {G : Gd} {X : Cx} {T : String} (hK : X.K = G.K) (F : ClsF c G.K G.mg) (hT : T ∈ c.all) : IsiOk G X (.ref (gaS G.K T)) (isiC c T) where
  b := fun s r hs e => by
    have e : (if s ∈ basics then some false else none) = some r := e
    rw [if_pos hs] at e
    cases e
    rw [hK]
    exact F.kitC T hT s hs
  o := fun x r e => by
    have e : (if x ∈ c.os then some (c.sub x T) else none) = some r := e
    split at e
    · rename_i hx
      cases e
      have hx' : x ∈ c.all := List.mem_append_left _ hx
      exact ⟨gaS G.K x, F.gm x hx', by rw [hK]; exact F.kit x hx' T hT, by rw [hK]; exact F.ins x hx⟩
    · cases e
  e := fun x r e => by
    have e : (if x ∈ c.es then some (c.sub x T) else none) = some r := e
    split at e
    · rename_i hx
      cases e
      have hx' : x ∈ c.all := List.mem_append_right _ hx
      exact ⟨gaS G.K x, F.gm x hx', by rw [hK]; exact F.kit x hx' T hT, by rw [hK]; exact F.exc x hx⟩
    · cases e
/-! ### the text -/
def dOf (at_ : Str × Option Str) (name qual : Str) (st : Stmt) : He.FnD := ⟨at_, name, qual, defArgs st, defBody st, defScope st⟩
/-- the code object of a def, its table -/
def codeA (K : PySem.W.Frag) (p : Str × Option Str) : Addr := match K.lookup (He.fAd K p) with
  | some ⟨_, _, .func fd, _⟩ => (match fd.code with
    | .ref c => c
    | _ => 0)
  | _ => 0
def tabA (K : PySem.W.Frag) (p : Str × Option Str) : Addr := match K.lookup (codeA K p) with
  | some ⟨_, _, .fields vs, _⟩ => (match (vs[11]? : Option Value) with
    | some (.ref P) => P
    | _ => 0)
  | _ => 0
def codeB (K : PySem.W.Frag) (p : Str × Option Str) : Bool := match K.lookup (He.fAd K p) with
  | some ⟨_, _, .func fd, _⟩ => (match fd.code with
    | .ref c => decide (c = codeA K p)
    | _ => false)
  | _ => false
/-- what is known of the text: facts, defs, classes, the defs that make lambdas (with the names of those), names that stay out of the written part -/
structure TxtD where
  fa : List He.Fa
  fn : List He.FnD
  cl : ClsT
  lam : List ((Str × Option Str) × Str)
def TxtD.tabs (d : TxtD) (K : PySem.W.Frag) : List (Addr × Str) := d.lam.map fun p => (tabA K p.1, p.2)
def TxtD.cs (d : TxtD) (K : PySem.W.Frag) : List (Addr × Addr) := d.lam.map fun p => (codeA K p.1, tabA K p.1)
def TxtD.ok (d : TxtD) (K : PySem.W.Frag) : Bool := d.cl.ok K && ((d.fn.all fun f => PySem.W.keepIn K (.ref (He.fAd K f.at_))) && ((d.lam.all fun p => codeB K p.1 && PySem.W.codeHdIn K (codeA K p.1) (tabA K p.1)) && ((d.lam.all fun p => (K.lookup (tabA K p.1)).isNone) &&
  ((d.lam.all fun p => d.lam.all fun q => !decide (tabA K p.1 = tabA K q.1) || decide (p.2 = q.2)) && K.all fun p => p.2.cls != .type "list"))))
structure Txt (d : TxtD) (K : PySem.W.Frag) (mg : Str → Option Value) (h : Heap) : Prop where
  X : K.In h
  G : h.Ns mainGlobals mg
  c : He.SaysE d.fa d.fn K
  ok : d.ok K = true
section
variable {d : TxtD} {K : PySem.W.Frag} {mg : Str → Option Value} {h : Heap}
theorem Txt.ands (T : Txt d K mg h) : d.cl.ok K = true ∧ (∀ f ∈ d.fn, PySem.W.keepIn K (.ref (He.fAd K f.at_)) = true) ∧ (∀ p ∈ d.lam, codeB K p.1 = true ∧ PySem.W.codeHdIn K (codeA K p.1) (tabA K p.1) = true) ∧ (∀ p ∈ d.lam, K.lookup (tabA K p.1) = none) ∧
    (∀ p ∈ d.lam, ∀ q ∈ d.lam, tabA K p.1 = tabA K q.1 → p.2 = q.2) ∧ ∀ p ∈ K, p.2.cls ≠ .type "list" := by
  have e := T.ok
  unfold TxtD.ok at e
  simp only [Bool.and_eq_true, List.all_eq_true, Option.isNone_iff_eq_none, Bool.or_eq_true, Bool.not_eq_true', decide_eq_false_iff_not, decide_eq_true_eq, bne_iff_ne, ne_eq] at e
  obtain ⟨h1, h2, h3, h4, h5, h6⟩ := e
  exact ⟨h1, h2, h3, h4, fun p hp q hq e => (h5 p hp q hq).resolve_left fun z => z e, fun p hp => h6 p hp⟩
theorem Txt.cls (T : Txt d K mg h) : ClsF d.cl K mg := ClsT.ok_ok T.X T.G T.ands.1
theorem Txt.free (T : Txt d K mg h) (i : Nat) {x : Str} (e : d.fa[i]? = some (.free x) := by rfl) : mg x = none := He.free_ok T.X T.G (T.c.fact i e)
theorem Txt.glo (T : Txt d K mg h) (i : Nat) {x : Str} (e : d.fa[i]? = some (.glo x) := by rfl) : mg x = some (.ref (He.ga K x)) := He.glo_ok T.X T.G (T.c.fact i e)
theorem Txt.fun_ (T : Txt d K mg h) (i : Nat) {at_ : Str × Option Str} {name qual : Str} {st : Stmt} (e : d.fn[i]? = some (dOf at_ name qual st) := by rfl) : ∃ fd, L2.Fun K name qual st (He.fAd K at_) fd := by
  obtain ⟨oc, od, osl, kV, doc, pm, an, cdv, ct, l, c⟩ := T.c.def_ i e
  exact ⟨_, fun_mk l c (T.ands.2.1 _ (List.mem_of_getElem? e))⟩
theorem Txt.code (T : Txt d K mg h) {at_ : Str × Option Str} {name qual q : Str} {st : Stmt} {fd : FuncData} (F : L2.Fun K name qual st (He.fAd K at_) fd) (hm : (at_, q) ∈ d.lam) : fd.code = .ref (codeA K at_) := by
  obtain ⟨oc, od, kV, doc, pm, an, cdv, ct, osl, _, lk, _⟩ := F.ex
  have e := (T.ands.2.2.1 _ hm).1
  unfold codeB at e
  dsimp only at e
  rw [lk] at e
  dsimp only at e
  split at e
  · rename_i c hc
    rw [hc, of_decide_eq_true e]
  · cases e
theorem Txt.tabU (T : Txt d K mg h) {p : (Str × Option Str) × Str} (hp : p ∈ d.lam) : ∀ q ∈ d.tabs K, q.1 = tabA K p.1 → q.2 = p.2 := fun q hq e => by
  obtain ⟨r, hr, rfl⟩ := List.mem_map.mp hq
  exact T.ands.2.2.2.2.1 r hr p hp e
theorem Txt.tabM (T : Txt d K mg h) {p : (Str × Option Str) × Str} (hp : p ∈ d.lam) : (tabA K p.1, p.2) ∈ d.tabs K := List.mem_map.mpr ⟨p, hp, rfl⟩
theorem Txt.csM (T : Txt d K mg h) {p : (Str × Option Str) × Str} (hp : p ∈ d.lam) : (codeA K p.1, tabA K p.1) ∈ d.cs K := List.mem_map.mpr ⟨p, hp, rfl⟩
end
end Q

set_option Elab.async false
set_option maxRecDepth 100000
set_option linter.all false
set_option autoImplicit false
/-! QZ: the last words for the printed texts; the end. -/
namespace Q
open PySem PySem.Spec PyProof.Rows L2 LamX

section
variable {G : Gd} {X : Cx} {pos : Pos}
theorem je_globI' {x : Str} {i : Int} (hg : Gl X x) (hm : ∃ t, X.mg x = some (.int i t)) (hd : (x == ("__debug__" : Str)) = false := by decide) : JE G X (eC (.int i)) (.Name x pos) := by
  obtain ⟨t, hm⟩ := hm
  exact je_globI hg hm ⟨t, rfl⟩ hd
/-- a name as the target, whatever the ground -/
theorem jgba_name {scope : Scope} {i : Nat} {x : Str} (hN : X.N.Nodup) (hi : X.N[i]? = some x) (hx : ∀ (s : Shared) (H : Hp) (C : Addr) (cl : List (Str × Addr)) (fp : List Addr), Loc (X.blk s H scope (compEnvC scope cl C X.env) fp).env.scope x)
    (hf : ∀ (s : Shared) (H : Hp) (C : Addr) (cl : List (Str × Addr)) (fp : List Addr), (X.blk s H scope (compEnvC scope cl C X.env) fp).fn x = true ∨ (X.blk s H scope (compEnvC scope cl C X.env) fp).env.scope.names.lookup x = some .local) :
    ∃ r : TG, (∀ (s : Shared) (H : Hp) (C : Addr) (cl : List (Str × Addr)) (fp : List Addr), PG (X.blk s H scope (compEnvC scope cl C X.env) fp) (.Name x pos) r) ∧ ∀ (G : Gd) (ι : Io) (H : Hp) (y : W) (v : V) (ρ ρ' : Env') (σ : L2.St) (Q : L2.St → Hp → Prop), RlE G ι ρ σ H → RepW G ι H y v → gN i y ρ = some ρ' → (∀ σ', RlE G ι ρ' σ' H → Sets [i] σ σ' → Q σ' H) → r v σ H Q :=
  ⟨gName i, fun s H C cl fp => pg_name (X := X.blk s H scope (compEnvC scope cl C X.env) fp) hN hi (hx s H C cl fp) (hf s H C cl fp), fun G ι H y v ρ ρ' σ Q re rv e k => by
    cases e
    exact k _ (re.set rv) (Sets.one σ i _)⟩
/-- raise X('..'), X an error class of the text -/
theorem js_raise' {c : String} {msg : Str} {j : Nat} {C : Addr} {p p2 pos2 : Pos} (hc : X.calm = true) (ex : PySem.W.excIn X.K C He.veBase "ValueError.__new__" = true ∧ PySem.W.keepIn X.K (.ref C) = true ∧ PySem.W.subIn X.K (.ref C) (.type "BaseException") = some true ∧ PySem.W.typeIn X.K (.ref C) = some (.type "type"))
    (gC : X.mg (Str.ofString c) = some (.ref C)) (hg : Gl X (Str.ofString c)) (hG : G.mg = X.mg) (hd : (Str.ofString c == ("__debug__" : Str)) = false := by decide) (hs : starEach [.Constant (.str msg) j p2] X.env = (false, eval (.Constant (.str msg) j p2) X.env) :: starEach [] X.env := by rfl) :
    JS G X (sRaise c) (.Raise (some (.Call (.Name (Str.ofString c) p) [.Constant (.str msg) j p2] [] pos)) none pos2) := js_raise hc PySem.F.excBase_ValueError ex.1 gC ex.2.1 (raises_own ex.2.2.1 ex.2.2.2) hg hG hd hs
end
/-- whole numbers that stay out of the written part -/
def Ints (mg : Str → Option Value) (l : List (Str × Int)) : Prop := ∀ p ∈ l, ∃ t, mg p.1 = some (.int p.2 t)
/-! ### the end -/
/-- no exception leaves the law -/
theorem noCX {P : Program} {w : World} (H : Hp) (s : Shared) (e : Value) (s' : Shared) (h : L2.CX P w [] H s (fun _ _ _ => False) e s') : False := by
  obtain ⟨_, _, _, _, _, _, _, _, _, _, _, _, z⟩ := h
  exact z
/-- the script, as the law's first value -/
def IsInts (h : AH) (x : W) (ns : List Int) : Prop := x = .d (.list (ns.map .int)) ∨ ∃ i, x = .ref i ∧ i < h.n ∧ h.f i = some (.lst (ns.map fun n => .d (.int n)))
theorem reps_ints {G : Gd} {H : Hp} : ∀ ns : List Int, RepDs G.K H (ns.map V.int) (ns.map .int)
  | [] => .nil
  | n :: ns => .cons (.int n) (reps_ints ns)
theorem lookup_mem {a : Addr} {o : Obj} : ∀ {l : List (Addr × Obj)}, l.lookup a = some o → (a, o) ∈ l
  | [], h => by cases h
  | (b, u) :: l, h => by
    rw [List.lookup_cons] at h
    cases q : (a == b) with
    | true =>
      rw [q] at h
      cases h
      rw [beq_iff_eq.mp q]
      exact List.mem_cons_self
    | false =>
      rw [q] at h
      exact List.mem_cons_of_mem _ (lookup_mem h)
theorem no_list {K : PySem.W.Frag} (hK : ∀ p ∈ K, p.2.cls ≠ .type "list") {a : Addr} {o : Obj} (e : K.lookup a = some o) : o.cls ≠ .type "list" := hK (a, o) (lookup_mem e)
/-- the law's promise, from what its function tells of every script -/
theorem law_sp {G : Gd} {P : Program} {fn : Fn} {n : Nat} (hK : ∀ p ∈ G.K, p.2.cls ≠ .type "list") (hb : G.bare = G) (H : Hp) (a : Addr) (ns : List Int) (ht : Tabs G.tabs H) (hS : SqL G.K H a (ns.map V.int))
    (law : ∀ (h : AH) (x : W), IsInts h x ns → ∃ h', fn [x] h = .ok (.d (.bool true)) h') : spOf G 1 fn [.ref a] H (fun v _ => v = .bl true) fun _ _ _ => False := by
  refine ⟨rfl, ?_⟩
  have fin : ∀ {ι : Io} {h h' : AH} {x : W}, fn [x] h = .ok (.d (.bool true)) h' → (fn [x] h).to (okP G.bare ι H fun v _ => v = .bl true) (erP G.bare ι H fun _ _ _ => False) := fun {ι h h' x} e => by
    rw [e]
    exact fun ι' v H' _ _ r => by cases r; rfl
  rcases hS with (h1 | ⟨o, h1⟩) | ⟨o, its, n, h1, h2, _⟩
  · -- the list is tracked
    let ι : Io := fun j => if j = 0 then some a else none
    let h : AH := ⟨1, fun j => if j = 0 then some (.lst (ns.map fun n => .d (.int n))) else none⟩
    have is0 : ∀ {i : Nat} {b : Addr}, ι i = some b → i = 0 ∧ b = a := fun {i b} hi => by
      have hi : (if i = 0 then some a else none) = some b := hi
      by_cases e : i = 0
      · rw [if_pos e] at hi
        exact ⟨e, (Option.some.inj hi).symm⟩
      · rw [if_neg e] at hi
        cases hi
    have ob : ∀ i o, h.f i = some o → ∃ b, ι i = some b ∧ RepO G.bare ι H b o := fun i o hi => by
      have hi : (if i = 0 then some (AO.lst (ns.map fun n => .d (.int n))) else none) = some o := hi
      by_cases e : i = 0
      · subst e
        rw [if_pos rfl] at hi
        cases hi
        refine ⟨a, rfl, ns.map V.int, h1, ?_⟩
        have : (ns.map fun n => W.d (.int n)) = (ns.map PyData.int).map W.d := by rw [List.map_map]; rfl
        rw [this]
        exact rep_map (G := G.bare.bare) (reps_ints (G := G) ns)
      · rw [if_neg e] at hi
        cases hi
    have rh : RlH G.bare ι h H :=
      { ob := ob
        lt := fun i b hi => by rw [(is0 hi).1]; exact Nat.one_pos
        inj := fun i j b hi hj => by rw [(is0 hi).1, (is0 hj).1]
        trk := fun i b hi => by rw [(is0 hi).2]; exact ⟨_, h1, fun ps z => by cases z⟩
        tab := ht }
    obtain ⟨h', e⟩ := law h (.ref 0) (.inr ⟨0, rfl, Nat.one_pos, rfl⟩)
    exact ⟨ι, h, [.ref 0], rh, .cons ⟨a, rfl, rfl⟩ .nil, fin e⟩
  · let h : AH := ⟨0, fun _ => none⟩
    have rh : RlH G.bare (fun _ => none) h H :=
      { ob := fun i o hi => by cases hi
        lt := fun i b hi => by cases hi
        inj := fun i j b hi _ => by cases hi
        trk := fun i b hi => by cases hi
        tab := ht }
    obtain ⟨h', e⟩ := law h (.d (.list (ns.map .int))) (.inl rfl)
    exact ⟨fun _ => none, h, [.d (.list (ns.map .int))], rh, .cons (.lst h1 (reps_ints (G := G) ns)) .nil, fin e⟩
  · exact absurd h2 (no_list hK h1)
theorem walk_X {l : PySem.W.OpenLaw} {n k : Nat} {q : Program} {loose : List Str} {XP : (Str → Option Value) → Heap → Prop} {YP : World → Heap → Prop} {d : DefRec} {K : Params → PySem.W.Frag} {x : Str}
    (hn : l.most = some n) (hn2 : n ≤ sizeLine) (hdf : d.params.defaults = []) (hr : Room k callerA) (hY : ∀ (w : World) (h : Heap), YP w h → (K w.params).In h)
    (F : ∀ (w : World) (mg : Str → Option Value) (fa : Addr) (h : Heap), XP mg h → YP w h → (K w.params).In h → h.Ns mainGlobals mg → mg d.name = some (.ref fa) → LawAtS l w (K w.params) (L2.CX l.prog w) k n x mg fa h) :
    PySem.W.WalkO q loose XP YP l.row.toRowW d [] (fun f vs => PySem.call f vs) := by
  refine Att.attach_callB hn hdf fun w s₀ s₁ mg mb fa o pm cd doc a vs ns G Y ho hd hcd hmg hobj hints hlen hbits hg => ?_
  have KX := hY w _ Y
  obtain ⟨fd, cs, sp, hT, nT, C, hb, hsp, hF⟩ := F w mg fa _ G.X Y KX G.T.g hmg
  exact law_callTs KX G.T.g G.T.b G.T.builtins G.T.nolimit hg hT nT C G.T.bmain hobj hints (Nat.le_trans hlen hn2) hr hF hb (fun H hH hS => hsp H a ns hlen hbits hH hS) fun H e s' => noCX H s₁ e s'
theorem ints_of {p : Program} {lv : List (Str × PySem.W.WData)} {mg : Str → Option Value} {h : Heap} (X : PySem.W.XL p lv mg h) {x : Str} {i : Int} (hm : (x, PySem.W.WData.int i) ∈ lv) : ∃ t, mg x = some (.int i t) := by
  obtain ⟨v, e, r⟩ := X.2.val _ hm
  cases r
  exact ⟨_, e⟩
end Q
namespace Q
open PySem PySem.Spec PyProof.Rows L2 LamX
/-! ### lambdas in the text, by their places -/
def kidsE : Expr → List Expr
  | .BoolOp _ vs _ => vs
  | .BinOp a _ b _ => [a, b]
  | .UnaryOp _ a _ => [a]
  | .Compare a _ bs _ => a :: bs
  | .Call f as _ _ => f :: as
  | .IfExp t a b _ => [t, a, b]
  | .Attribute e _ _ => [e]
  | .Subscript a b _ => [a, b]
  | .Tuple es _ _ => es
  | .List es _ => es
  | .ListComp elt gens _ _ => elt :: gens.flatMap fun g => g.iter :: g.ifs
  | _ => []
def kidsS : Stmt → List Expr
  | .Expr e _ => [e]
  | .Assign _ e _ => [e]
  | .If t _ _ _ => [t]
  | .While t _ _ _ => [t]
  | .For _ it _ _ _ => [it]
  | .Return (some e) _ => [e]
  | _ => []
def kidsSS : Stmt → List Stmt
  | .If _ a b _ => a ++ b
  | .While _ a b _ => a ++ b
  | .For _ _ a b _ => a ++ b
  | s => defBody s
def noE : Expr := .Constant .none 0 ⟨0, 0, 0, 0⟩
def kE (e : Expr) (i : Nat) : Expr := (kidsE e).getD i noE
def kS (s : Stmt) (i : Nat) : Expr := (kidsS s).getD i noE
def sS (s : Stmt) (i : Nat) : Stmt := (kidsSS s).getD i (.Pass ⟨0, 0, 0, 0⟩)
def dS (s : Stmt) (i : Nat) : Stmt := (defBody s).getD i (.Pass ⟨0, 0, 0, 0⟩)
def noScope : Scope := { kind := .function, names := [], isGenerator := false, isCoroutine := false, more := [] }
def lamI (e : Expr) : LamI := match e with
  | .Lambda params body scope _ => ⟨params, body, scope⟩
  | _ => ⟨{ posonlyargs := [], args := [], vararg := none, kwonlyargs := [], kw_defaults := [], kwarg := none, defaults := [] }, noE, noScope⟩
theorem LamsOk.of {G : Gd} {X : Cx} {k : Nat} : ∀ {ls : List LamI} {bodies : List SemE}, Paired (LamOk G X k) ls bodies → LamsOk G X k ls bodies
  | _, _, .nil, n, l, e => by simp at e
  | _, _, .cons h t, 0, l, e => by
    have e := Option.some.inj e
    subst e
    exact ⟨_, rfl, h⟩
  | _, _, .cons h t, n + 1, l, e => by
    obtain ⟨mk, h1, h2⟩ := LamsOk.of t n l (by simpa using e)
    exact ⟨mk, by simpa using h1, h2⟩
/-! ### [lambda: .., ..] -/
def allC : List W → Option (List Nat)
  | [] => some []
  | .clo k :: ws => (allC ws).map (k :: ·)
  | _ :: _ => none
theorem allC_rep {G : Gd} {ι : Io} {H : Hp} : ∀ {ws : List W} {vs : List V} {ks : List Nat}, allC ws = some ks → RepWs G ι H ws vs → Paired (fun k v => G.cl.p k ι H v) ks vs
  | [], _, ks, e, r => by
    cases r
    cases (Option.some.inj e)
    exact .nil
  | .clo k :: ws, _, ks, e, r => by
    cases r with
    | cons r1 r2 =>
      cases q : allC ws with
      | none => simp [allC, q] at e
      | some es =>
        simp [allC, q] at e
        subst e
        exact .cons r1 (allC_rep q r2)
  | .d _ :: _, _, _, e, _ => by simp [allC] at e
  | .ref _ :: _, _, _, e, _ => by simp [allC] at e
  | .exc _ _ :: _, _, _, e, _ => by simp [allC] at e
  | .clos _ :: _, _, _, e, _ => by simp [allC] at e
def eClos (ms : SemA) : SemE := fun ρ h => (ms ρ h).bind fun xs h1 => .ofOpt ((allC xs).bind fun ks => if ks.length ≤ 1000 then some (.clos ks) else none) h1
theorem je_clos {G : Gd} {X : Cx} {pos : Pos} {es : List Expr} {ms : SemA} (ha : JA G X ms es) : JE G X (eClos ms) (.List es pos) := fun U t => (pe_frz (pe_lst (ha U t))).imp fun σ H Q h => by
  refine rdA_bind (k := fun xs h1 => .ofOpt ((allC xs).bind fun ks => if ks.length ≤ 1000 then some (.clos ks) else none) h1) h fun ι1 xs h1 vs H1 r1 v1 m1 => ?_
  obtain ⟨z, ez, k⟩ := to_ofOpt m1
  cases hd : allC xs with
  | none => rw [hd] at ez; cases ez
  | some ks =>
    rw [hd] at ez
    have ez : (if ks.length ≤ 1000 then some (W.clos ks) else none) = some z := ez
    split at ez
    · rename_i hl
      cases ez
      have rd := allC_rep hd v1
      refine ⟨line1000 (by rw [← rd.length]; exact hl), fun p np => .inr ⟨p, vs, rfl, upd_same, fun o => ?_⟩⟩
      rw [upd2]
      exact k ι1 _ _ (Ext.fresh np) (r1.fresh np) ⟨p, o, vs, rfl, upd_same, paired_mono (fun k v r => G.cl.mono k ι1 H1 ι1 _ v (Ext.fresh np).lo r) rd⟩
    · cases ez
/-- the def that catches, from the facts -/
theorem caughtD {d : TxtD} {K : PySem.W.Frag} {mg : Str → Option Value} {h : Heap} {X : Cx} {errs : List String} {i j p : Nat} {st : Stmt} {k0 : Nat} {q1 q2 q3 p1 p2 p3 np r1 r2 r3 pos' tpos t1 t2 : Pos} (T : Txt d K mg h) (hK : X.K = K) (hm : X.mg = mg) (hd : d.fn[i]? = some (dOf ("_law_caught", none) "_law_caught" "_law_caught" st)) (hf : d.fa[j]? = some (.glo "_law_caught"))
    (hp : d.fa[p]? = some (.glo "PurseError")) (S : FnScope ["work", "found", "error"] ["work"] (defScope st)) (hb : defBody st = caughtBody "work" "found" "error" "PurseError" k0 q1 q2 q3 p1 p2 p3 np r1 r2 r3 pos' tpos t1 t2) (n1 : (defScope st).names.lookup ("work" : Str) = some .local) (n2 : (defScope st).names.lookup ("found" : Str) = some .local) (n3 : (defScope st).names.lookup ("error" : Str) = some .local) (n4 : (defScope st).names.lookup ("PurseError" : Str) = some .globalImplicit)
    (hB : ∀ fd, L2.Fun K "_law_caught" "_law_caught" st (He.fAd K ("_law_caught", none)) fd → L2.Binds K fd ["work"] []) (herr : ∀ c ∈ errs, ∃ n : Nat, d.fa[n]? = some (.exm (Str.ofString c) "PurseError" true) ∧ mg (Str.ofString c) = some (.ref (He.ga K (Str.ofString c)))) : CaughtDef X (Str.ofString "_law_caught") (He.ga K "_law_caught") errs mg := by
  subst hK
  subst hm
  obtain ⟨fd, F⟩ := T.fun_ i hd
  refine ⟨T.glo j hf, F.kp, st, fd, "work", "found", "error", "PurseError", He.ga X.K "PurseError", k0, q1, q2, q3, p1, p2, p3, np, r1, r2, r3, pos', tpos, t1, t2, F, hB fd F, S, hb, n1, n2, n3, n4, T.glo p hp, ?_, fun c hc C g => ?_⟩
  · intro n hn
    simp only [List.mem_cons, List.not_mem_nil, or_false] at hn
    rcases hn with rfl | rfl | rfl | rfl <;> exact ⟨by decide, by decide⟩
  · obtain ⟨n, h1, h2⟩ := herr c hc
    rw [h2] at g
    cases g
    exact He.exm_ok (T.c.fact n h1)
end Q
namespace Q
open PySem PySem.Spec PyProof.Rows L2 LamX
theorem tabs_nil {d : TxtD} {K : PySem.W.Frag} {H : Hp} (h : ∀ p ∈ d.cs K, H p.2 = some (.tbl #[])) : Tabs (d.tabs K) H := fun p hp => by
  obtain ⟨q, hq, rfl⟩ := List.mem_map.mp hp
  exact TabS.nil (h _ (List.mem_map.mpr ⟨q, hq, rfl⟩))
/-- the promise of a law at the head, from its def and its function -/
theorem law_at {l : PySem.W.OpenLaw} {d : TxtD} {K : PySem.W.Frag} {mg : Str → Option Value} {h : Heap} {w : World} {k : Nat} {fa : Addr} {ts : List Addr} {fn : Fn} {x : Str} (T : Txt d K mg h) (hts : ∀ P ∈ ts, h.get? P = some (PySem.W.tabObj #[])) (hc : (d.cs K).all (fun p => ts.contains p.2) = true)
    (F : ∃ fd : FuncData, (∀ (s : Shared) (u : Value), BindsTo s fd ⟨[u], []⟩ [(x, u)]) ∧ ∀ base : Heap, (∀ p ∈ d.cs K, TabB base mg p.1 p.2) → FnOk l.prog w K mg base (L2.CX l.prog w) k fa fd [x] (spOf ⟨w, K, mg, d.tabs K, Clo.no⟩ 1 fn))
    (law : ∀ ns : List Int, ns.length ≤ 63 → (∀ z ∈ ns, Builtin.Int.intBits z ≤ 1048576) → ∀ (h : AH) (x : W), IsInts h x ns → ∃ h', fn [x] h = .ok (.d (.bool true)) h') : LawAtS l w K (L2.CX l.prog w) k 63 x mg fa h := by
  obtain ⟨fd, hb, F⟩ := F
  refine ⟨fd, d.cs K, spOf ⟨w, K, mg, d.tabs K, Clo.no⟩ 1 fn, fun p hp => ?_, fun p hp => ?_, fun p hp => ?_, hb, fun H a ns hl hz hH hS => ?_, fun base _ _ TB => F base TB⟩
  · have := List.all_eq_true.mp hc p hp
    exact hts _ (by simpa using this)
  · obtain ⟨q, hq, rfl⟩ := List.mem_map.mp hp
    exact T.ands.2.2.2.1 q hq
  · obtain ⟨q, hq, rfl⟩ := List.mem_map.mp hp
    exact PySem.W.codeHd_of_K T.X (T.ands.2.2.1 q hq).2
  · exact law_sp (P := l.prog) (n := 0) (G := ⟨w, K, mg, d.tabs K, Clo.no⟩) T.ands.2.2.2.2.2 rfl H a ns (tabs_nil hH) hS (law ns hl hz)
end Q

set_option Elab.async false
set_option maxRecDepth 100000
set_option linter.all false
set_option autoImplicit false
/-! SA: slices, the order of data. -/
namespace Q
open PySem PySem.Spec PyProof.Rows L2 LamX

/-! ### slices -/
def cutA {α : Type} (xs : List α) (lo hi : Option Int) : List α := (xs.drop (HT.sIx xs.length 0 lo)).take (HT.sIx xs.length xs.length hi - HT.sIx xs.length 0 lo)
theorem cutA_len {α : Type} (xs : List α) (lo hi : Option Int) : (cutA xs lo hi).length ≤ xs.length := by
  unfold cutA
  rw [List.length_take, List.length_drop]
  omega
theorem repDs_drop {K : PySem.W.Frag} {H : Hp} : ∀ (n : Nat) {vs : List V} {ds : List PyData}, RepDs K H vs ds → RepDs K H (vs.drop n) (ds.drop n)
  | 0, _, _, r => r
  | n + 1, _, _, .nil => .nil
  | n + 1, _, _, .cons _ t => repDs_drop n t
theorem repDs_take {K : PySem.W.Frag} {H : Hp} : ∀ (n : Nat) {vs : List V} {ds : List PyData}, RepDs K H vs ds → RepDs K H (vs.take n) (ds.take n)
  | 0, _, _, r => by simp only [List.take_zero]; exact .nil
  | n + 1, _, _, .nil => .nil
  | n + 1, _, _, .cons h t => .cons h (repDs_take n t)
theorem repDs_rev {K : PySem.W.Frag} {H : Hp} : ∀ {vs : List V} {ds : List PyData}, RepDs K H vs ds → RepDs K H vs.reverse ds.reverse
  | _, _, .nil => .nil
  | _, _, .cons h t => by
    rw [List.reverse_cons, List.reverse_cons]
    exact (repDs_rev t).append (.cons h .nil)
theorem repDs_cut {K : PySem.W.Frag} {H : Hp} {vs : List V} {ds : List PyData} (r : RepDs K H vs ds) (lo hi : Option Int) : RepDs K H (cutV vs lo hi) (cutA ds lo hi) := by
  unfold cutV cutA
  rw [r.length]
  exact repDs_take _ (repDs_drop _ r)
theorem cutA_whole {α : Type} {xs : List α} {lo hi : Option Int} (h : HT.sIx xs.length 0 lo = 0 ∧ HT.sIx xs.length xs.length hi = xs.length) : cutA xs lo hi = xs := by
  unfold cutA
  rw [h.1, h.2]
  simp
abbrev SemO := Env' → AH → Out (Option Int)
def oN : SemO := fun _ h => .ok none h
def oS (m : SemE) : SemO := fun ρ h => (m ρ h).bind fun x h1 => match x with
  | .d (.int i) => .ok (some i) h1
  | _ => .bad
def cutO (x : W) (lo hi : Option Int) (h : AH) : Option W := match toD h x with
  | some (.tuple ds) => some (.d (.tuple (cutA ds lo hi)))
  | some (.list ds) => some (.d (.list (cutA ds lo hi)))
  | _ => none
def eSl (m : SemE) (lo hi : SemO) : SemE := fun ρ h => (m ρ h).bind fun x h1 => (lo ρ h1).bind fun l h2 => (hi ρ h2).bind fun u h3 => .ofOpt (cutO x l u h3) h3
def rdO (G : Gd) (U : WX) (m : SemO) : TO := fun σ H Q => ∃ (ι : Io) (ρ : Env') (h : AH), RlH G ι h H ∧ RlE G ι ρ σ H ∧ (m ρ h).to (fun o h' => ∀ (ι' : Io) (H' : Hp), Ext ι H ι' H' → RlH G ι' h' H' → Q o H') (erP G ι H (xk U σ))
def JO (G : Gd) (X : Cx) (m : SemO) (e : Option Expr) : Prop := ∀ U : WX, Takes X U → PO X e (rdO G U m)
theorem po_imp {X : Cx} {e : Option Expr} {t t' : TO} (p : PO X e t) (h : ∀ σ H Q, t' σ H Q → t σ H Q) : PO X e t' := ⟨fun pins s σ H Q I q => p.run pins s σ H Q I (h σ H Q q)⟩
section
variable {G : Gd} {X : Cx} {pos p2 : Pos} {e : Expr} {lo hi : Option Expr} {m : SemE} {ml mh : SemO}
theorem jo_none : JO G X oN none := fun U _ => po_imp po_none fun σ H Q ⟨ι, ρ, h0, rh, re, q⟩ => q ι H .refl rh
theorem jo_some (ha : JE G X m e) : JO G X (oS m) (some e) := fun U t => po_imp (po_some (ha U t)) fun σ H Q h => by
  obtain ⟨ι, ρ, h0, rh, re, q⟩ := h
  unfold oS at q
  rw [to_bind] at q
  refine ⟨ι, ρ, h0, rh, re, Out.to_mono q (fun x h1 z ι1 v H1 e1 r1 v1 => ?_) fun _ _ _ z => z⟩
  split at z
  · rename_i i
    cases v1
    exact ⟨i, rfl, z ι1 H1 e1 r1⟩
  · exact z.elim
theorem je_slice (hK : X.K = G.K) (ha : JE G X m e) (hl : JO G X ml lo) (hh : JO G X mh hi) : JE G X (eSl m ml mh) (.Subscript e (.Slice lo hi none p2) pos) := fun U t =>
  (pe_frz (pe_slice (SlR.or sl_tupA sl_list) (ha U t) (hl U t) (hh U t))).imp fun σ H Q h => by
    obtain ⟨ι, ρ, h0, rh, re, q⟩ := h
    unfold eSl at q
    rw [to_bind] at q
    refine ⟨ι, ρ, h0, rh, re, Out.to_mono q (fun x h1 z ι1 v H1 e1 r1 v1 => ?_) fun _ _ _ z => z⟩
    rw [to_bind] at z
    refine ⟨ι1, ρ, h1, r1, re.mono e1, Out.to_mono z (fun l h2 z2 ι2 H2 e2 r2 => ?_) fun _ _ _ z2 => z2.up e1⟩
    rw [to_bind] at z2
    refine ⟨ι2, ρ, h2, r2, (re.mono e1).mono e2, Out.to_mono z2 (fun u h3 z3 ι3 H3 e3 r3 => ?_) fun _ _ _ z3 => z3.up (e1.trans e2)⟩
    have e13 := e1.trans (e2.trans e3)
    obtain ⟨w, ew, k⟩ := to_ofOpt z3
    have v3 := v1.mono (e2.trans e3)
    unfold cutO at ew
    split at ew
    · rename_i ds hd
      cases ew
      have qd := toD_data v3 hd fun _ z => by cases z
      cases qd with
      | @tup a xs _ h1 h2 =>
        refine .inl ⟨a, xs, rfl, by rw [hK]; exact h1, fun hw => ?_, fun hw p np => ?_⟩
        · rw [cutA_whole (by rw [← h2.length]; exact hw)] at k
          exact .inl (k ι3 _ _ e13 r3 (.tup h1 h2))
        · refine .inl (k ι3 _ _ (e13.trans (.fresh np)) (r3.fresh np) ?_)
          exact .tup (.inl (.inl upd_same)) (RepDs.mono (Stb.fresh np) _ _ (repDs_cut h2 l u))
    · rename_i ds hd
      cases ew
      obtain ⟨a, xs, rfl, h1, h2⟩ := toD_list r3 v3 hd
      refine .inr ⟨a, xs, rfl, h1.sq, fun p np => .inr ⟨p, _, rfl, upd_same, fun o => ?_⟩⟩
      rw [upd2]
      exact k ι3 _ _ (e13.trans (.fresh np)) (r3.fresh np) (.lst upd_same (RepDs.mono (Stb.fresh np) _ _ (repDs_cut h2 l u)))
    · cases ew
end
/-! ### t[::-1], xs[::-1] -/
end Q
namespace HT
open PySem PySem.Spec PyProof.Rows
section
variable {prog : Program} {w : World} {A : Around} {E : Value → Shared → Prop} {s : Shared}
theorem adjust_rev (n : Nat) : Builtin.Slice.sliceAdjust none none (-1) (n : Int) = ((n : Int) - 1, -1) := by
  unfold Builtin.Slice.sliceAdjust
  simp
theorem places_rev (n : Nat) : Builtin.Slice.slicePlaces ((n : Int) - 1) (-1) (-1) = n := by
  unfold Builtin.Slice.slicePlaces
  simp
  split <;> omega
theorem fm_some {α β : Type} (f : α → Option β) (g : α → β) : ∀ l : List α, (∀ m ∈ l, f m = some (g m)) → l.filterMap f = l.map g
  | [], _ => rfl
  | x :: l, h => by
    rw [List.filterMap_cons, h x (List.mem_cons_self ..)]
    simp only [List.map_cons]
    rw [fm_some f g l fun m hm => h m (List.mem_cons_of_mem _ hm)]
theorem sliceApplied_rev {sl : Addr} {n : Nat} {u : Tok} {Q : Int × Int × Nat → Shared → Prop} (hs : s.heap.IsSliceOf sl .none .none (.int (-1) u))
    (h : Q ((n : Int) - 1, -1, n) s) : wpAny (model prog w) A (Builtin.Slice.sliceApplied (.ref sl) (pure (n : Int))) Q E s := by
  obtain ⟨os, hos, hcs, hds⟩ := id hs
  unfold Builtin.Slice.sliceApplied Builtin.Slice.sliceFields
  refine wpAny_bind (wpAny_bind (wpAny_field hos hds (x := .none) rfl (wpAny_bind (wpAny_field hos hds (x := .none) rfl (wpAny_bind (wpAny_field hos hds (x := .int (-1) u) rfl (wpAny_pure ?_)))))))
  refine wpAny_bind (slicePart_int ?_)
  show wpAny _ _ (if ((-1 : Int) == 0) = true then _ else _) _ _ s
  rw [if_neg (by decide)]
  refine wpAny_bind (slicePart_ .none (wpAny_bind (slicePart_ .none (wpAny_bind (wpAny_pure ?_)))))
  show wpAny _ _ (match Builtin.Slice.sliceAdjust none none (-1) (n : Int) with | (lo, hi) => pure (lo, (-1 : Int), Builtin.Slice.slicePlaces lo hi (-1))) _ _ s
  rw [adjust_rev n]
  show wpAny _ _ (pure ((n : Int) - 1, (-1 : Int), Builtin.Slice.slicePlaces ((n : Int) - 1) (-1) (-1))) _ _ s
  rw [places_rev]
  exact wpAny_pure h
theorem pick_rev (xs : Array Value) : ((List.range xs.size).filterMap fun (m : Nat) => xs[(((xs.size : Nat) : Int) - 1 + (m : Int) * -1).toNat]?).toArray = xs.toList.reverse.toArray := by
  congr 1
  have key : ∀ (l : List Value), (List.range l.length).filterMap (fun (m : Nat) => l[(((l.length : Nat) : Int) - 1 + (m : Int) * -1).toNat]?) = l.reverse := by
    intro l
    apply List.ext_getElem?
    intro i
    have e : (List.range l.length).filterMap (fun (m : Nat) => l[(((l.length : Nat) : Int) - 1 + (m : Int) * -1).toNat]?) = (List.range l.length).map (fun (m : Nat) => l.getD (l.length - 1 - m) .none) := by
      refine fm_some _ _ _ fun m hm => ?_
      have hm : m < l.length := List.mem_range.mp hm
      have : (((l.length : Nat) : Int) - 1 + (m : Int) * -1).toNat = l.length - 1 - m := by omega
      rw [this]
      have hl : l.length - 1 - m < l.length := by omega
      simp [List.getElem?_eq_getElem hl]
    rw [e]
    by_cases hi : i < l.length
    · have h2 : l.length - 1 - i < l.length := by omega
      rw [List.getElem?_reverse hi]
      simp [hi, List.getElem?_eq_getElem h2]
    · rw [List.getElem?_eq_none (by simpa using hi), List.getElem?_eq_none (by simpa using hi)]
  have := key xs.toList
  simpa using this
theorem getItem_tuple_rev {t sl : Addr} {items : Array Value} {u : Tok} {Q : Value → Shared → Prop} (ht : IsTup s.heap t items) (hs : s.heap.IsSliceOf sl .none .none (.int (-1) u))
    (h : Q (.ref s.heap.objs.size) { s with heap := s.heap.push { cls := .type "tuple", data := .seq items.toList.reverse.toArray } })
    (hsz : items.size ≤ sizeLine) : wpAny (model prog w) A (getItem (.ref t) (.ref sl)) Q E s := by
  have htake : sizeOk (.seq items.toList.reverse.toArray) := by
    show items.toList.reverse.toArray.size ≤ sizeLine
    simpa using hsz
  obtain ⟨os, hos, hcs, hds⟩ := id hs
  have hTs : s.TypeIs (.ref sl) "slice" := ⟨os, hos, hcs⟩
  unfold getItem
  try with_reducible refine wpAny_holding ?_
  first | refine wpAny_bind (wpAny_pure ?_) | skip
  refine wpAny_bind (wpAny_sequenceKey ht.typeIs (by decide) ?_)
  refine wpAny_bind (wpAny_callSpecial?_slot (name := Str.ofString "__getitem__") ht.typeIs PyProof.Rows.slot_tuple_getitem
    (wpAny_call_entry PyProof.Rows.slot_tuple_getitem ht.typeIs entry_tuple_getitem ?_ (args_tuple_getitem _ _)))
  show wpAny _ _ (Builtin.Tuple.tupleItemsOf (.ref t) >>= _) _ _ s
  refine wpAny_bind (tupleItemsOf_ ht ?_)
  refine wpAny_bind (wpAny_typeOf hTs ?_)
  rw [if_pos (by decide)]
  refine wpAny_bind (sliceApplied_rev hs ?_)
  have hno : ¬ (((((items.size : Nat) : Int) - 1) == 0 && (-1 : Int) == 1 && items.size == items.size) = true) := by
    intro q
    rw [Bool.and_eq_true, Bool.and_eq_true] at q
    exact absurd q.1.2 (by decide)
  show wpAny _ _ (if ((((items.size : Nat) : Int) - 1) == 0 && (-1 : Int) == 1 && items.size == items.size) = true then _ else _) _ _ s
  rw [if_neg hno, pick_rev]
  first
    | exact wpAny_bind (m := Builtin.Tuple.tupleExact _) (wpAny_newObj_type (wpAny_pure ⟨_, rfl, wpAny_pure h⟩) htake)
    | exact wpAny_bind (m := Builtin.Tuple.tupleExact _) (wpAny_newObj_type (wpAny_bind (wpAny_pure (wpAny_pure ⟨_, rfl, wpAny_pure h⟩))) htake)
    | exact wpAny_bind (wpAny_bind (m := Builtin.Tuple.tupleExact _) (wpAny_newObj_type (wpAny_pure (wpAny_pure ⟨_, rfl, wpAny_pure h⟩)) htake))
    | exact wpAny_bind (wpAny_bind (m := Builtin.Tuple.tupleExact _) (wpAny_newObj_type (wpAny_pure ⟨_, rfl, wpAny_pure h⟩) htake))
end
end HT
namespace Q
open PySem PySem.Spec PyProof.Rows L2 LamX
/-- x[::-1] of a tuple or a list -/
def tRevA (K : PySem.W.Frag) (te : TE) : TE := fun σ H Q => te σ H fun x H1 => ∃ a xs, x = .ref a ∧ ((SqL K H1 a xs ∧ ∀ p, H1 p = none → Q (.ref p) (upd H1 p (.lst xs.reverse))) ∨ (SqT K H1 a xs ∧ ∀ p, H1 p = none → Q (.ref p) (upd H1 p (.tup xs.reverse))))
theorem pe_revA {X : Cx} {e : Expr} {te : TE} {k : Nat} {p1 p2 p3 pos : Pos} (he : PE X e te) : PE X (.Subscript e (.Slice none none (some (.UnaryOp .USub (.Constant (.int 1) k p1) p2)) p3) pos) (tRevA X.K te) := by
  refine ⟨fun pins s σ H Q I h => ?_⟩
  refine Subscript_ (thn (he.run pins s σ H _ I h) fun v s1 ⟨x, H1, I1, r1, q1⟩ => ?_)
  obtain ⟨a, xs, ex, q1⟩ := q1
  subst ex
  cases r1
  have hst : PO X (some (.UnaryOp .USub (.Constant (.int 1) k p1) p2)) (tPart (tUn (rU fun i => .int (-i)) (tC (.int 1)))) := po_some (pe_un un_neg pe_int)
  refine wpAny_Slice (thn (po_none.run pins s1 σ H1 (fun o H2 => o = none ∧ H2 = H1) I1 ⟨rfl, rfl⟩) fun vl s2 ⟨l, H2, I2, pl, el, e2⟩ => ?_)
  subst el e2
  refine thn (po_none.run pins s2 σ H2 (fun o H3 => o = none ∧ H3 = H2) I2 ⟨rfl, rfl⟩) fun vu s3 ⟨u, H3, I3, pu, eu, e3⟩ => ?_
  subst eu e3
  refine thn (hst.run pins s3 σ H3 (fun o H4 => o = some (-1) ∧ H4 = H3) I3 ⟨1, rfl, -1, rfl, rfl, rfl⟩) fun vs s4 ⟨o, H4, I4, ps, eo, e4⟩ => ?_
  subst eo e4
  have I5 : Inv X pins σ H4 { s4 with heap := s4.heap.push { cls := .type "slice", data := .fields #[vl, vu, vs] } } := I4.kept (t' := s4.toks) fun b ob q => Heap.get?_push_of_some _ q
  show wpAny (model X.prog X.w) X.A (subscriptTail e (.Slice none none (some (.UnaryOp .USub (.Constant (.int 1) k p1) p2)) p3) (.ref a) (.ref s4.heap.objs.size)) (EP X pins σ Q) X.xe { s4 with heap := s4.heap.push { cls := .type "slice", data := .fields #[vl, vu, vs] } }
  rcases q1 with ⟨hx, q⟩ | ⟨hx, q⟩
  · obtain ⟨its, r, ht, hz⟩ := I5.list hx
    have hlen := r.length
    refine tail_any (ops := [.ref a, .ref s4.heap.objs.size]) ht.isList.typeIs (PySem.slot_list_getitem.lookup) ?_ (by with_unfolding_all rfl)
    refine wpAny_getItem_list_slice ht.isList (Heap.IsSliceOf.new _ vl vu vs) pl pu ps (by decide) ?_ (by rw [List.size_toArray]; omega)
    rw [PySem.W.krv_pick]
    refine ⟨.ref _, _, I5.laid (t' := s4.toks) (o := .lst xs.reverse) (fun b ob q => Heap.get?_push_of_some _ q) (Nat.le_refl _) ?_, rfl, q _ (I5.hok.fresh (Nat.le_refl _))⟩
    exact ⟨by rw [List.length_reverse]; exact hz, _, 0, r.reverse, Heap.get?_push_size _ rfl⟩
  · obtain ⟨its, r, ht, hz⟩ := I5.tuple hx
    have hlen := r.length
    cases pl
    cases pu
    cases ps
    refine tail_any (ops := [.ref a, .ref s4.heap.objs.size]) ht.typeIs (PyProof.Rows.slot_tuple_getitem.lookup) ?_ (by with_unfolding_all rfl)
    refine HT.getItem_tuple_rev ht (Heap.IsSliceOf.new _ _ _ _) ?_ (by rw [List.size_toArray]; omega)
    refine ⟨.ref _, _, I5.laid (t' := s4.toks) (o := .tup xs.reverse) (fun b ob q => Heap.get?_push_of_some _ q) (Nat.le_refl _) ?_, rfl, q _ (I5.hok.fresh (Nat.le_refl _))⟩
    exact ⟨by rw [List.length_reverse]; exact hz, _, r.reverse, IsTup.new _ _⟩
def revO : Op1 := fun x h => match toD h x with
  | some (.tuple ds) => some (.d (.tuple ds.reverse))
  | some (.list ds) => some (.d (.list ds.reverse))
  | _ => none
theorem je_rev {G : Gd} {X : Cx} {pos p1 p2 p3 : Pos} {e : Expr} {m : SemE} {k : Nat} (hK : X.K = G.K) (ha : JE G X m e) : JE G X (eUn revO m) (.Subscript e (.Slice none none (some (.UnaryOp .USub (.Constant (.int 1) k p1) p2)) p3) pos) := fun U t =>
  (pe_frz (pe_revA (ha U t))).imp fun σ H Q h => by
    refine rd_bind (k := fun x ρ h1 => .ofOpt (revO x h1) h1) h fun ι ι1 ρ x h1 v H1 e1 r1 re1 v1 m1 => ?_
    obtain ⟨w, ew, k⟩ := to_ofOpt m1
    unfold revO at ew
    split at ew
    · rename_i ds hd
      cases ew
      have qd := toD_data v1 hd fun _ z => by cases z
      cases qd with
      | @tup a xs _ h1 h2 =>
        exact ⟨a, xs, rfl, .inr ⟨by rw [hK]; exact h1, fun p np => .inl (k ι1 _ _ (.fresh np) (r1.fresh np) (.tup (.inl (.inl upd_same)) (RepDs.mono (Stb.fresh np) _ _ (repDs_rev h2))))⟩⟩
    · rename_i ds hd
      cases ew
      obtain ⟨a, xs, rfl, h1, h2⟩ := toD_list r1 v1 hd
      refine ⟨a, xs, rfl, .inl ⟨h1.sq, fun p np => .inr ⟨p, _, rfl, upd_same, fun o => ?_⟩⟩⟩
      rw [upd2]
      exact k ι1 _ _ (.fresh np) (r1.fresh np) (.lst upd_same (RepDs.mono (Stb.fresh np) _ _ (repDs_rev h2)))
    · cases ew
end Q

set_option Elab.async false
set_option maxRecDepth 100000
set_option linter.all false
set_option autoImplicit false
/-! SB: sum, sorted, zip, a, b, c = .., calls by keywords. -/
namespace Q
open PySem PySem.Spec PyProof.Rows L2 LamX

/-! ### sum -/
def allIn : List PyData → Option (List Int)
  | [] => some []
  | .int i :: ds => (allIn ds).map (i :: ·)
  | _ :: _ => none
theorem allIn_eq : ∀ {ds : List PyData} {ns : List Int}, allIn ds = some ns → ds = ns.map .int
  | [], ns, e => by cases e; rfl
  | .int i :: ds, ns, e => by
    cases q : allIn ds with
    | none => simp [allIn, q] at e
    | some ms =>
      simp [allIn, q] at e
      subst e
      rw [allIn_eq q]
      rfl
  | .none :: _, _, e => by simp [allIn] at e
  | .bool _ :: _, _, e => by simp [allIn] at e
  | .str _ :: _, _, e => by simp [allIn] at e
  | .list _ :: _, _, e => by simp [allIn] at e
  | .tuple _ :: _, _, e => by simp [allIn] at e
  | .dict _ :: _, _, e => by simp [allIn] at e
theorem allIn_map (ns : List Int) : allIn (ns.map .int) = some ns := by
  induction ns with
  | nil => rfl
  | cons n ns ih => simp [allIn, ih]
theorem reps_ints_back {K : PySem.W.Frag} {H : Hp} : ∀ {ns : List Int} {vs : List V}, RepDs K H vs (ns.map .int) → vs = ns.map V.int
  | [], _, r => by cases r; rfl
  | n :: ns, _, r => by
    cases r with
    | cons r1 r2 =>
      cases r1
      rw [reps_ints_back r2]
      rfl
section
variable {G : Gd} {X : Cx} {pos : Pos} {e : Expr} {es : List Expr} {ms : SemA}
def rSumA (K : PySem.W.Frag) : List V → Hp → VK → Prop := fun vs H Q => ∃ (a : Addr) (ns : List Int), vs = [V.ref a] ∧ (SqL K H a (ns.map V.int) ∨ SqT K H a (ns.map V.int)) ∧ Q (.int ns.sum) H
theorem cr_sumA (hc : X.calm = true) : CallR X (.builtin "sum") (rSumA X.K) := by
  intro pins s σ H vs us Q I r h
  obtain ⟨a, ns, rfl, hs, q⟩ := h
  rcases hs with hs | hs
  · exact cr_sum hc pins s σ H _ us Q I r ⟨a, ns, rfl, hs, q⟩
  · obtain ⟨its, rv, hl, _⟩ := I.tuple hs
    rw [Vals.ref1 r]
    have hi := rv.ints
    obtain ⟨xs, hx⟩ := hi.allInts.items
    have hn : numsOf its.toArray.toList = ns := by rw [show its.toArray.toList = its from rfl, hi.numsOf]
    rw [hx] at hl hn
    rw [nums_intItems] at hn
    refine PySem.W.ktm_sumG (I.ok.hd hc) (show s.heap.IsTuple a (intItems xs) from hl) fun h' tk t' hk => ?_
    have e : preSum (numAt xs) xs.size = ns.sum := by
      rw [preSum_eq, List.take_of_length_le (by simp), hn]
    exact ⟨.int _, H, I.kept hk, ⟨_, rfl⟩, by rw [e]; exact q⟩
def sumO : OpN := fun xs h => match xs with
  | [w] => match toD h w with
    | some (.list ds) => (allIn ds).map fun ns => .d (.int ns.sum)
    | some (.tuple ds) => (allIn ds).map fun ns => .d (.int ns.sum)
    | _ => none
  | _ => none
theorem cs_sum (hK : X.K = G.K) (hc : X.calm = true) : CallS G X (.builtin "sum") sumO := ⟨_, cr_sumA hc, fun ι h H xs z vs Q r rv e k => by
  unfold sumO at e
  split at e
  · obtain ⟨v, rfl, a⟩ := ws1 rv
    split at e
    · rename_i ds hd
      cases ei : allIn ds with
      | none => rw [ei] at e; cases e
      | some ns =>
        rw [ei] at e
        cases e
        obtain ⟨p, ys, rfl, h1, h2⟩ := toD_list r a hd
        rw [allIn_eq ei] at h2
        have := reps_ints_back h2
        subst this
        exact ⟨p, ns, rfl, .inl h1.sq, okP.here k r (.int _)⟩
    · rename_i ds hd
      cases ei : allIn ds with
      | none => rw [ei] at e; cases e
      | some ns =>
        rw [ei] at e
        cases e
        have q := toD_data a hd fun _ z => by cases z
        cases q with
        | @tup p ys _ h1 h2 =>
          rw [allIn_eq ei] at h2
          have := reps_ints_back h2
          subst this
          exact ⟨p, ns, rfl, .inr (by rw [hK]; exact h1), okP.here k r (.int _)⟩
    · cases e
  · cases e⟩
/-! ### sorted -/
noncomputable def srt (ds : List PyData) : List PyData := ds.mergeSort (PySem.W.dataLe false fun d : PyData => d)
def okSrt (ds : List PyData) : Prop := ds.length ≤ 1000000 ∧ (∀ d ∈ ds, okD d = true) ∧ PySem.W.AllAlike ds ∧ PySem.W.Sortable ds
/-- sorted(xs), xs data that has an order -/
def rSortD (K : PySem.W.Frag) : List V → Hp → VK → Prop := fun vs H Q => ∃ (a : Addr) (xs : List V) (ds : List PyData), vs = [V.ref a] ∧ SqL K H a xs ∧ RepDs K H xs ds ∧ okSrt ds ∧ ∀ (ys : List V) (p : Addr), RepDs K H ys (srt ds) → H p = none → Q (.ref p) (upd H p (.lst ys))
theorem each_reps {K : PySem.W.Frag} {H : Hp} : ∀ {xs : List V} {us : List Value} {ds : List PyData}, Vals xs us → RepDs K H xs ds → PySem.W.EachIs (fun u d => ∃ x, RelV x u ∧ RepD K H x d) us ds
  | _, _, _, .nil, .nil => .nil
  | _, _, _, .cons r t, .cons h q => .cons ⟨_, r, h⟩ (each_reps t q)
theorem reps_each {K : PySem.W.Frag} {H : Hp} : ∀ {us : List Value} {ds : List PyData}, PySem.W.EachIs (fun u d => ∃ x, RelV x u ∧ RepD K H x d) us ds → ∃ xs, Vals xs us ∧ RepDs K H xs ds
  | _, _, .nil => ⟨[], .nil, .nil⟩
  | _, _, .cons ⟨x, r, h⟩ t => by
    obtain ⟨xs, a, b⟩ := reps_each t
    exact ⟨x :: xs, .cons r a, .cons h b⟩
theorem each_reads {pins : List (Addr × Obj)} {σ : L2.St} {H : Hp} {s : Shared} (I : Inv X pins σ H s) : ∀ {xs : List V} {us : List Value} {ds : List PyData}, Vals xs us → RepDs X.K H xs ds → (∀ d ∈ ds, d.plain = true) → PySem.W.EachIs (fun u d => ∃ as, Reads s.heap u d as) us ds
  | _, _, _, .nil, .nil, _ => .nil
  | _, _, _, .cons r t, .cons h q, p => .cons (Dp.reads I _ _ _ (RepD.dpP _ _ h (p _ (List.mem_cons_self ..))) r) (each_reads I t q fun d hd => p d (List.mem_cons_of_mem _ hd))
theorem cr_sortedD (hu : X.A.units + 70 < cLine) : CallR X (.builtin "sorted") (rSortD X.K) := by
  intro pins s σ H vs us Q I r h
  obtain ⟨a, xs, ds, rfl, hs, rd, ⟨hl, hok, hal, hso⟩, q⟩ := h
  obtain ⟨its, rv, hli, hz⟩ := I.list hs
  rw [Vals.ref1 r]
  have em : (ds.map fun d => d) = ds := by simp
  refine PySem.W.sorted_data (enc := fun d : PyData => d) hli.isList (each_reps rv rd) (each_reads I rv rd fun d hd => (okD_iff (hok d hd)).1) (by rw [em]; exact hal) (by rw [em]; exact hso) (million hl) (fun d hd => by have := (okD_iff (hok d hd)).2; show X.A.units + 2 + d.depth < cLine; omega) fun out ho eo => ?_
  obtain ⟨ys, ry, rd'⟩ := reps_each eo
  obtain ⟨ep, he'⟩ := PyProof.Rows.sortedAll_at s.heap its (List.toArray out)
  have hlen : ys.length ≤ sizeLine := by rw [ry.length, ho]; exact million hl
  exact ⟨.ref _, upd H (s.heap.objs.size + 1) (.lst ys), I.laid (t' := s.toks) (fun _ _ => PyProof.Rows.sortedAll_old) (Nat.le_succ _) ⟨hlen, out, ep, ry, he'⟩, rfl, q ys _ rd' (I.hok.fresh (Nat.le_succ _))⟩
open Classical in
noncomputable def sortedO : OpN := fun xs h => match xs with
  | [w] => match toD h w with
    | some (.list ds) => if okSrt ds then some (.d (.list (srt ds))) else none
    | _ => none
  | _ => none
theorem cs_sorted (hK : X.K = G.K) (hu : X.A.units + 70 < cLine) : CallS G X (.builtin "sorted") sortedO := ⟨_, call_frz (cr_sortedD hu), fun ι h H xs z vs Q r rv e k => by
  unfold sortedO at e
  split at e
  · obtain ⟨v, rfl, a⟩ := ws1 rv
    split at e
    · rename_i ds hd
      split at e
      · rename_i ok
        cases e
        obtain ⟨p, ys, rfl, h1, h2⟩ := toD_list r a hd
        refine ⟨p, ys, ds, rfl, h1.sq, by rw [hK]; exact h2, ok, fun zs l rz nl => ⟨l, _, rfl, upd_same, fun o => ?_⟩⟩
        rw [upd2]
        rw [hK] at rz
        exact k ι _ _ (.fresh nl) (r.fresh nl) (.lst upd_same (RepDs.mono (Stb.fresh nl) _ _ rz))
      · cases e
    · cases e
  · cases e⟩
/-! ### zip -/
def zipD (as bs : List PyData) : List W := (as.zip bs).map fun p => .d (.tuple [p.1, p.2])
theorem zipD_len (as bs : List PyData) : (zipD as bs).length = min as.length bs.length := by simp [zipD]
theorem zipD_get {as bs : List PyData} {i : Nat} (h : i < (zipD as bs).length) : ∃ x y, as[i]? = some x ∧ bs[i]? = some y ∧ (zipD as bs)[i]? = some (.d (.tuple [x, y])) := by
  rw [zipD_len] at h
  have h1 : i < as.length := by omega
  have h2 : i < bs.length := by omega
  refine ⟨as[i], bs[i], by simp [h1], by simp [h2], ?_⟩
  simp [zipD, List.getElem?_map, List.getElem?_zip_eq_some, h1, h2]
def iZip (ma mb : SemE) : SemI := fun ρ h => (ma ρ h).bind fun x h1 => (mb ρ h1).bind fun y h2 => match toD h2 x, toD h2 y with
  | some (.tuple as), some (.tuple bs) => if as.length ≤ 1000000 then .ok (zipD as bs, fun _ => True) h2 else .bad
  | some (.list as), some (.list bs) => if as.length ≤ 1000000 then .ok (zipD as bs, fun h => toD h x = some (.list as) ∧ toD h y = some (.list bs)) h2 else .bad
  | _, _ => .bad
theorem itz_ok {K : PySem.W.Frag} {ι0 : Io} {H0 : Hp} {a b : Addr} {as bs : List PyData} {chk : AH → Prop} (hK : K = G.K) (h : ∀ (ι : Io) (h : AH) (H : Hp), Ex0 ι0 H0 ι H → RlH G ι h H → chk h → ∃ vs us, SqL K H a vs ∧ SqL K H b us ∧ RepDs G.K H vs as ∧ RepDs G.K H us bs) : ItOk G (Itz K a b) ι0 H0 (zipD as bs) chk where
  go := fun ι h1 H i e r c hi => by
    obtain ⟨vs, us, q1, q2, r1, r2⟩ := h ι h1 H e r c
    rw [zipD_len, ← r1.length, ← r2.length] at hi
    have i1 : i < vs.length := by omega
    have i2 : i < us.length := by omega
    exact ⟨vs, us, vs[i], us[i], q1, q2, by simp [i1], by simp [i2]⟩
  yld := fun ι h1 H i x H' e r c hi y => by
    obtain ⟨T, x', y', rfl, nT, rfl, f1, f2⟩ := y
    obtain ⟨vs, us, q1, q2, r1, r2⟩ := h ι h1 H e r c
    obtain ⟨d1, d2, e1, e2, e3⟩ := zipD_get hi
    obtain ⟨v1, g1, g2⟩ := r1.get e1
    obtain ⟨v2, g3, g4⟩ := r2.get e2
    have := f1 vs q1
    rw [g1] at this
    cases this
    have := f2 us q2
    rw [g3] at this
    cases this
    exact ⟨.fresh nT, r.fresh nT, _, e3, .tup (.inl (.inl upd_same)) (.cons (RepD.mono (Stb.fresh nT) _ _ g2) (.cons (RepD.mono (Stb.fresh nT) _ _ g4) .nil))⟩
  stop := fun ι h1 H e r c => by
    obtain ⟨vs, us, q1, q2, r1, r2⟩ := h ι h1 H e r c
    have l := zipD_len as bs
    have l1 := r1.length
    have l2 := r2.length
    exact ⟨vs, us, q1, q2, by omega⟩
theorem itzT_ok {K : PySem.W.Frag} {ι0 : Io} {H0 : Hp} {a b : Addr} {as bs : List PyData} {chk : AH → Prop} (hK : K = G.K) (h : ∀ (ι : Io) (h : AH) (H : Hp), Ex0 ι0 H0 ι H → RlH G ι h H → chk h → ∃ vs us, SqT K H a vs ∧ SqT K H b us ∧ RepDs G.K H vs as ∧ RepDs G.K H us bs) : ItOk G (RZ.ItzT K a b) ι0 H0 (zipD as bs) chk where
  go := fun ι h1 H i e r c hi => by
    obtain ⟨vs, us, q1, q2, r1, r2⟩ := h ι h1 H e r c
    rw [zipD_len, ← r1.length, ← r2.length] at hi
    have i1 : i < vs.length := by omega
    have i2 : i < us.length := by omega
    exact ⟨vs, us, vs[i], us[i], q1, q2, by simp [i1], by simp [i2]⟩
  yld := fun ι h1 H i x H' e r c hi y => by
    obtain ⟨T, x', y', rfl, nT, rfl, f1, f2⟩ := y
    obtain ⟨vs, us, q1, q2, r1, r2⟩ := h ι h1 H e r c
    obtain ⟨d1, d2, e1, e2, e3⟩ := zipD_get hi
    obtain ⟨v1, g1, g2⟩ := r1.get e1
    obtain ⟨v2, g3, g4⟩ := r2.get e2
    have := f1 vs q1
    rw [g1] at this
    cases this
    have := f2 us q2
    rw [g3] at this
    cases this
    exact ⟨.fresh nT, r.fresh nT, _, e3, .tup (.inl (.inl upd_same)) (.cons (RepD.mono (Stb.fresh nT) _ _ g2) (.cons (RepD.mono (Stb.fresh nT) _ _ g4) .nil))⟩
  stop := fun ι h1 H e r c => by
    obtain ⟨vs, us, q1, q2, r1, r2⟩ := h ι h1 H e r c
    have l := zipD_len as bs
    have l1 := r1.length
    have l2 := r2.length
    exact ⟨vs, us, q1, q2, by omega⟩
theorem ji_zip {a b : Expr} {ma mb : SemE} {p tpos : Pos} {elts : List Expr} {j : Nat} (hK : X.K = G.K) (hg : Gl X "zip") (hm : X.mg "zip" = none) (ha : JE G X ma a) (hb : JE G X mb b) (hs2 : starEach [b] X.env = (false, eval b X.env) :: starEach [] X.env := by rfl) (hs : starEach [a, b] X.env = (false, eval a X.env) :: starEach [b] X.env := by rfl) (hpl : (backTo pos (starEach [b] X.env)).any (·.1) = false := by rfl) :
    JI G X (iZip ma mb) (.Tuple elts j tpos) (.Call (.Name "zip" p) [a, b] [] pos) := fun U t =>
  (RZ.pi_zipA hg hm (pa_cons (ha U t) (pa_cons (hb U t) pa_nil hs2) hs) hs hpl).imp fun σ H R h => by
    obtain ⟨ι, ρ, h0, rh, re, q⟩ := h
    unfold iZip at q
    rw [to_bind] at q
    refine ⟨ι, ρ, h0, rh, re, Out.to_mono q (fun x h1 z ι1 v H1 e1 r1 v1 => ?_) fun _ _ _ z => z⟩
    rw [to_bind] at z
    refine ⟨ι1, ρ, h1, r1, re.mono e1, Out.to_mono z (fun y h2 z2 ι2 u H2 e2 r2 u2 => ?_) fun _ _ _ z2 => z2.up e1⟩
    have v2 := v1.mono e2
    have e12 := e1.trans e2
    split at z2
    · rename_i as bs hx hy
      split at z2
      · rename_i hl
        have q1 := toD_data v2 hx fun _ z => by cases z
        have q2 := toD_data u2 hy fun _ z => by cases z
        cases q1 with
        | @tup a' xs _ h1 h2' =>
          cases q2 with
          | @tup b' ys _ h3 h4 =>
            refine ⟨a', b', xs, ys, rfl, .inr ⟨by rw [hK]; exact h1, by rw [hK]; exact h3, ?_⟩⟩
            refine z2 ι2 H2 _ e12 r2 (itzT_ok hK fun ι h H e r _ => ⟨xs, ys, by rw [hK]; exact sqT_mono e.st h1, by rw [hK]; exact sqT_mono e.st h3, RepDs.mono e.st _ _ h2', RepDs.mono e.st _ _ h4⟩) ?_
            show (zipD as bs).length ≤ sizeLine
            rw [zipD_len]
            have := million hl
            omega
      · exact z2.elim
    · rename_i as bs hx hy
      split at z2
      · rename_i hl
        obtain ⟨a', xs, rfl, h1, h2'⟩ := toD_list r2 v2 hx
        obtain ⟨b', ys, rfl, h3, h4⟩ := toD_list r2 u2 hy
        refine ⟨a', b', xs, ys, rfl, .inl ⟨h1.sq, h3.sq, ?_⟩⟩
        refine z2 ι2 H2 _ e12 r2 (itz_ok hK fun ι h H e r c => ?_) ?_
        · obtain ⟨a2, xs2, ea, g1, g2⟩ := toD_list r (v2.mono0 e) c.1
          obtain ⟨b2, ys2, eb, g3, g4⟩ := toD_list r (u2.mono0 e) c.2
          cases ea
          cases eb
          exact ⟨xs2, ys2, g1.sq, g3.sq, g2, g4⟩
        · show (zipD as bs).length ≤ sizeLine
          rw [zipD_len]
          have := million hl
          omega
      · exact z2.elim
    · exact z2.elim
/-! ### a, b, c = x, y, z -/
def sPar3 (i j l : Nat) (ms : SemA) : SemS := fun ρ h => (ms ρ h).st fun xs h1 => match xs with
  | [x, y, z] => .nx (((ρ.set i (some x)).set j (some y)).set l (some z)) h1
  | _ => .bad
theorem ws3 {ι : Io} {H : Hp} {w w' w'' : W} {vs : List V} (r : RepWs G ι H [w, w', w''] vs) : ∃ v v' v'', vs = [v, v', v''] ∧ RepW G ι H w v ∧ RepW G ι H w' v' ∧ RepW G ι H w'' v'' := by
  cases r with
  | cons a b =>
    obtain ⟨v', v'', e, b, c⟩ := ws2 b
    exact ⟨_, v', v'', by rw [e], a, b, c⟩
theorem js_par3 {i j l : Nat} {x y z : Str} {a b c : Expr} {px py pz pt : Pos} {kt k2 : Nat} {pt2 : Pos} (hc : X.calm = true) (hN : X.N.Nodup) (hi : X.N[i]? = some x) (hj : X.N[j]? = some y) (hl : X.N[l]? = some z) (hij : i ≠ j) (hil : i ≠ l) (hjl : j ≠ l) (hx : X.env.scope.names.lookup x = some .local) (hy : X.env.scope.names.lookup y = some .local) (hz : X.env.scope.names.lookup z = some .local) (ha : JA G X ms [a, b, c])
    (hw : swappedStores [.Tuple [.Name x px, .Name y py, .Name z pz] kt pt] (.Tuple [a, b, c] k2 pt2) X.env = pure (some [x, y, z])) (hs : swapsWithSole [.Tuple [.Name x px, .Name y py, .Name z pz] kt pt] (.Tuple [a, b, c] k2 pt2) pos.line X.env = pure false := by rfl) :
    JS G X (sPar3 i j l ms) (.Assign [.Tuple [.Name x px, .Name y py, .Name z pz] kt pt] (.Tuple [a, b, c] k2 pt2) pos) := fun U t => (ps_par3 hc hN hi hj hl hij hil hjl hx hy hz (ha U t) hw hs).imp fun D σ H h => by
  refine rdSA_bind (k := fun xs ρ h1 => match xs with
    | [x, y, z] => .nx (((ρ.set i (some x)).set j (some y)).set l (some z)) h1
    | _ => .bad) h fun ι1 ρ xs h1 vs H1 r1 re1 v1 q => ?_
  split at q
  · obtain ⟨v, v', v'', rfl, p1, p2, p3⟩ := ws3 v1
    exact ⟨v, v', v'', rfl, q ι1 _ H1 .refl r1 (((re1.set p1).set p2).set p3)⟩
  · exact q.elim
/-! ### f(k = v, ..) -/
/-- the keywords' values, from the left -/
def JK (G : Gd) (X : Cx) (ms : SemA) (kws : List Keyword) : Prop := ∀ U : WX, Takes X U → PK X kws (rdA G U ms)
theorem pk_imp {X : Cx} {kws : List Keyword} {t t' : TA} (p : PK X kws t) (h : ∀ σ H Q, t' σ H Q → t σ H Q) : PK X kws t' := ⟨fun pos pins s σ H Q I q => p.run pos pins s σ H Q I (h σ H Q q)⟩
theorem jk_nil : JK G X aNil [] := fun U _ => pk_imp pk_nil fun σ H Q ⟨ι, ρ, h0, rh, re, m⟩ => m ι [] H .refl rh .nil
theorem jk_cons {m : SemE} {nm : Option Str} {kws : List Keyword} {kpos : Pos} (ha : JE G X m e) (hr : JK G X ms kws) : JK G X (aCons m ms) (⟨nm, e, kpos⟩ :: kws) := fun U t => pk_imp (pk_cons (ha U t) (hr U t)) fun σ H Q h => by
  obtain ⟨ι, ρ, h0, rh, re, q⟩ := h
  unfold aCons at q
  rw [to_bind] at q
  refine ⟨ι, ρ, h0, rh, re, Out.to_mono q (fun x h1 z ι1 v H1 e1 r1 v1 => ?_) fun _ _ _ z => z⟩
  rw [to_bind] at z
  refine ⟨ι1, ρ, h1, r1, re.mono e1, Out.to_mono z (fun xs h2 z2 ι2 vs H2 e2 r2 v2 => ?_) fun _ _ _ z2 => z2.up e1⟩
  exact z2 ι2 _ H2 (e1.trans e2) r2 (.cons (v1.mono e2) v2)
def permA {α : Type} (pm : List Nat) (xs : List α) : List α := pm.filterMap fun i => xs[i]?
theorem permA_vals : ∀ (pm : List Nat) {zs : List V} {ws : List Value}, Vals zs ws → Vals (permA pm zs) (permA pm ws)
  | [], _, _, _ => .nil
  | i :: pm, zs, ws, r => by
    have ih := permA_vals pm r
    unfold permA at ih ⊢
    rw [List.filterMap_cons, List.filterMap_cons]
    by_cases hi : i < zs.length
    · obtain ⟨u, e1, e2⟩ := Paired.get1 r (List.getElem?_eq_getElem hi)
      rw [List.getElem?_eq_getElem hi, e1]
      exact .cons e2 ih
    · rw [List.getElem?_eq_none (by omega), List.getElem?_eq_none (by have := r.length; omega)]
      exact ih
theorem permA_ws {ι : Io} {H : Hp} : ∀ (pm : List Nat) {xs : List W} {vs : List V}, RepWs G ι H xs vs → RepWs G ι H (permA pm xs) (permA pm vs)
  | [], _, _, _ => .nil
  | i :: pm, xs, vs, r => by
    have ih := permA_ws pm r
    unfold permA at ih ⊢
    rw [List.filterMap_cons, List.filterMap_cons]
    by_cases hi : i < xs.length
    · obtain ⟨u, e1, e2⟩ := Paired.get1 r (List.getElem?_eq_getElem hi)
      rw [List.getElem?_eq_getElem hi, e1]
      exact .cons e2 ih
    · rw [List.getElem?_eq_none (by omega), List.getElem?_eq_none (by have := r.length; omega)]
      exact ih
/-- a def that is called by keywords alone, ks in the call's sequence; pm: the place of each parameter among them -/
def FnPK (G : Gd) (P : Program) (base : Heap) (k : Nat) (x : String) (ks : List Str) (pm : List Nat) (np : Nat) (fn : Fn) : Prop := ∃ (f : Addr) (fd : FuncData) (ps : List Str), G.mg (Str.ofString x) = some (.ref f) ∧ PySem.W.keepIn G.K (.ref f) = true ∧ KBn G.K fd ps 0 ks (fun _ ws => permA pm ws) (fun _ zs => permA pm zs) ∧ FnOk P G.w G.K G.mg base (L2.CX P G.w) k f fd ps (spOf G np fn)
structure FnXK (G : Gd) (X : Cx) (k : Nat) (x : String) (ks : List Str) (pm : List Nat) (np : Nat) (fn : Fn) : Prop where
  ex : ∃ (f : Addr) (fd : FuncData) (ps : List Str), X.mg (Str.ofString x) = some (.ref f) ∧ PySem.W.keepIn X.K (.ref f) = true ∧ KBn X.K fd ps 0 ks (fun _ ws => permA pm ws) (fun _ zs => permA pm zs) ∧ FnOk X.prog X.w X.K X.mg X.base (L2.CX X.prog X.w) k f fd ps (spOf G np fn)
theorem FnPK.at {P : Program} {base : Heap} {k np : Nat} {x : String} {ks : List Str} {pm : List Nat} {fn : Fn} (h : FnPK G P base k x ks pm np fn) (o : Over G P base X) {G' : Gd} (g : G'.bare = G.bare) : FnXK G' X k x ks pm np fn := by
  obtain ⟨f, fd, ps, h1, h2, h3, h4⟩ := h
  refine ⟨f, fd, ps, by rw [o.mg]; exact h1, by rw [o.K]; exact h2, by rw [o.K]; exact h3, ?_⟩
  rw [o.p, o.w, o.K, o.mg, o.b, ← spOf_bare, g]
  exact h4
def eCallK (nk np : Nat) (pm : List Nat) (fn : Fn) (ms : SemA) : SemE := fun ρ h => (ms ρ h).bind fun xs h1 => if xs.all W.flat = true ∧ xs.length = nk ∧ (permA pm xs).all W.flat = true ∧ (permA pm xs).length = np then fn (permA pm xs) h1 else .bad
theorem kbn_of {K : PySem.W.Frag} {fd : FuncData} {ps ks : List Str} {pm : List Nat} (h : ∀ ws : List Value, ws.length = ks.length → bindArgs fd ⟨[], ks.zip ws⟩ = pure (ps.zip (permA pm ws))) : KBn K fd ps 0 ks (fun _ ws => permA pm ws) (fun _ zs => permA pm zs) where
  to := fun s us ws hs hu hw => by
    cases us with
    | nil => exact .of_eq (h ws hw)
    | cons _ _ => cases hu
  rel := fun _ rz => permA_vals pm rz
def tCallKS (m : Nat) (sp : Sp) (gV : List V → List V) (E : L2.St → XK) (tk : TA) : TE := fun σ H Q => tk σ H fun zs H2 => zs.length = m ∧ sp (gV zs) H2 Q (E σ)
theorem pe_callKS {CX : CXT} {k : Nat} {f : Addr} {fd : FuncData} {ps ks : List Str} {sp : Sp} {E : L2.St → XK} {x : Str} {p : Pos} {kws : List Keyword} {tk : TA} {g : List Value → List Value → List Value} {gV : List V → List V → List V} (F : FnOk X.prog X.w X.K X.mg X.base CX k f fd ps sp) (hr : Room k X.A) (hg : Gl X x) (hm : X.mg x = some (.ref f)) (hk : PySem.W.keepIn X.K (.ref f) = true) (hb : KBn X.K fd ps 0 ks g gV) (hx : ∀ σ, PassesAt CX X σ (E σ))
    (hkw : PK X kws tk) (hall : (backToKw pos (keywordEach kws X.env)).all (·.1.isSome) = true := by rfl) (hks : (backToKw pos (keywordEach kws X.env)).filterMap (·.1) = ks := by rfl)
    (hdb : (x == ("__debug__" : Str)) = false := by decide) (hpl : ((backTo pos (starEach [] X.env)).any (·.1) || (backToKw pos (keywordEach kws X.env)).any (·.1.isNone)) = false := by rfl) :
    PE X (.Call (.Name x p) [] kws pos) (tCallKS ks.length sp (gV []) E tk) := by
  refine ⟨fun pins s σ H Q I h => ?_⟩
  refine wpAny_Call_Name_kw (ld_glob I hg hm ?_ hdb)
  refine PySem.W.callWith_KW0 (h₀ := X.base) I.ok.mod.kin hk hall ?_ hpl
  refine thn (hkw.run pos pins s σ H _ I h) fun ws s2 ⟨zs, H2, I2, rz, l2, q2⟩ => ⟨I2.kIn, ?_⟩
  rw [hks]
  have r2 := hb.rel (vs := []) (us := []) .nil rz
  refine wpAny_call (codeAny_mono (F.run X.A X.stack s2 H2 ⟨[], ks.zip ws⟩ (g [] ws) (gV [] zs) Q (E σ) hr I2.env0 (hb.to s2 [] ws I2.kIn rfl (rz.length.symm.trans l2)) r2 q2) fun r s' hq => ?_)
  cases r with
  | error e => exact hx σ pins H2 s2 e s' I2 hq
  | ok fl =>
    cases fl with
    | ret u => exact I2.after hq
    | next => exact False.elim hq
    | brk => exact False.elim hq
    | cont => exact False.elim hq
theorem je_callK {k np nk : Nat} {x : String} {ks : List Str} {pm : List Nat} {fn : Fn} {p : Pos} {kws : List Keyword} (F : FnXK G X k x ks pm np fn) (hr : Room k X.A) (hn : ks.length = nk) (hg : Gl X (Str.ofString x)) (ha : JK G X ms kws) (hall : (backToKw pos (keywordEach kws X.env)).all (·.1.isSome) = true := by rfl) (hks : (backToKw pos (keywordEach kws X.env)).filterMap (·.1) = ks := by rfl)
    (hdb : (Str.ofString x == ("__debug__" : Str)) = false := by decide) (hpl : ((backTo pos (starEach [] X.env)).any (·.1) || (backToKw pos (keywordEach kws X.env)).any (·.1.isNone)) = false := by rfl) :
    JE G X (eCallK nk np pm fn ms) (.Call (.Name (Str.ofString x) p) [] kws pos) := fun U t => by
  obtain ⟨f, fd, ps, gm, kp, hb, F⟩ := F.ex
  refine (pe_callKS F hr hg gm kp hb (fun σ => passAt t σ) (ha U t) hall hks hdb hpl).imp fun σ H Q h => ?_
  refine rdA_bind (k := fun xs h1 => if xs.all W.flat = true ∧ xs.length = nk ∧ (permA pm xs).all W.flat = true ∧ (permA pm xs).length = np then fn (permA pm xs) h1 else .bad) h fun ι1 xs h1 vs H1 r1 v1 m1 => ?_
  split at m1
  · rename_i hx
    exact ⟨by rw [← v1.length, hn]; exact hx.2.1, sp_ok r1 (permA_ws pm v1) hx.2.2 m1⟩
  · exact m1.elim
end
end Q

set_option Elab.async false
set_option maxRecDepth 100000
set_option linter.all false
set_option autoImplicit false
/-! SC: comprehensions of two clauses. -/
namespace Q
open PySem PySem.Spec PyProof.Rows L2 LamX

open Classical in
noncomputable def compL2 (chk : AH → Prop) (g : SemG) (mt : SemT) (own1 : List Nat) (mi1 : SemI) (g1 : SemG) (mt1 : SemT) (me : SemE) (ρ : Env') : List W → AH → Out (List W)
  | [], h => if chk h then .ok [] h else .bad
  | x :: xs, h => if chk h then (match g x ρ with
    | some ρ1 => match mt ρ1 h with
      | .ok true h1 => match mi1 ρ1 h1 with
        | .ok p h2 => match compL p.2 g1 mt1 me (wipR ρ1 own1) p.1 h2 with
          | .ok ys h3 => match compL2 chk g mt own1 mi1 g1 mt1 me ρ xs h3 with
            | .ok zs h4 => .ok (ys ++ zs) h4
            | _ => .bad
          | _ => .bad
        | _ => .bad
      | .ok false h1 => compL2 chk g mt own1 mi1 g1 mt1 me ρ xs h1
      | _ => .bad
    | none => .bad) else .bad
abbrev Kg (G : Gd) (g : SemG) (sl : List Nat) (r : TG) : Prop := ∀ (ι : Io) (H : Hp) (x : W) (v : V) (ρ ρ' : Env') (σ : L2.St) (Q : L2.St → Hp → Prop), RlE G ι ρ σ H → RepW G ι H x v → g x ρ = some ρ' → (∀ σ', RlE G ι ρ' σ' H → Sets sl σ σ' → Q σ' H) → r v σ H Q
section
variable {G : Gd} {X : Cx}
theorem reps_snoc {ι : Io} {H : Hp} {z : W} {v : V} (v4 : RepW G ι H z v) : ∀ {l : List W} {k : List V}, RepWs G ι H l k → RepWs G ι H (l ++ [z]) (k ++ [v])
  | _, _, .nil => .cons v4 .nil
  | _, _, .cons p1 t => .cons p1 (reps_snoc v4 t)
theorem tLc2_of {U : WX} {mi mi1 : SemI} {g g1 : SemG} {r r1 : TG} {sl own sl1 own1 : List Nat} {mt mt1 : SemT} {me : SemE} {σ : L2.St} {H : Hp} {Q : VK} {ι : Io} {ρ : Env'} {h0 : AH} (rh : RlH G ι h0 H) (re : RlE G ι ρ σ H) (hsl : ∀ i ∈ sl, i ∈ own) (hsl1 : ∀ i ∈ sl1, i ∈ own1) (kg : Kg G g sl r) (kg1 : Kg G g1 sl1 r1)
    (q : (mi ρ h0).to (fun p h1 => ∃ ys h2, compL2 p.2 g mt own1 mi1 g1 mt1 me (wipR ρ own) p.1 h1 = .ok ys h2 ∧ ys.length ≤ 1000000 ∧ ∀ (ι' : Io) (H' : Hp) (D : Addr) (vs : List V), Ext ι H ι' H' → RlH G ι' h2 H' → H' D = some (.lst vs) → RepWs G ι' H' ys vs → (∀ j, ι' j ≠ some D) → ¬ Trk H D → Q (.ref D) H') (erP G ι H (xk U σ))) :
    tLc2 (rdI G U mi) r (rdT G U0 mt) (rdI G U0 mi1) r1 (rdT G U0 mt1) (rdE G U0 me) own own1 σ H Q := by
  refine ⟨ι, ρ, h0, rh, re, Out.to_mono q (fun p h1 z ι1 H1 J e1 rl1 jok hl D nD => ?_) fun _ _ _ z => z⟩
  obtain ⟨ws, chk⟩ := p
  obtain ⟨ys, h2, ec, hlen, fin⟩ := z
  dsimp only at ec jok hl
  have re1 := re.mono e1
  have keepD : ∀ {ι2 ι' : Io} {H2 H' : Hp} {av : List V}, Ext ι2 H2 ι' H' → H2 D = some (.lst av) → (∀ j, ι2 j ≠ some D) → H' D = some (.lst av) ∧ ∀ j, ι' j ≠ some D := fun e hD n => ⟨e.fr D _ hD n (fun ps z => by cases z), fun j z => by
    rcases e.nw j D z with q | q
    · exact n j q
    · exact q ⟨_, hD, fun ps z => by cases z⟩⟩
  refine ⟨fun i m H => i ≤ ws.length ∧ m = ws.length - i ∧ ∃ (ι : Io) (h : AH) (acc : List W) (av : List V) (rest : List W), Ext ι1 H1 ι H ∧ RlH G ι h H ∧ H D = some (.lst av) ∧ RepWs G ι H acc av ∧ ys = acc ++ rest ∧ compL2 chk g mt own1 mi1 g1 mt1 me (wipR ρ own) (ws.drop i) h = .ok rest h2 ∧ ∀ j, ι j ≠ some D,
    ⟨ws.length, Nat.zero_le _, rfl, ι1, h1, [], [], ys, .fresh nD, rl1.fresh nD, upd_same, .nil, rfl, ec, rl1.nj nD⟩, ?_⟩
  rintro i m H' ⟨hi, rfl, ι2, hh, acc, av, rest, e2, r2, hD, ra, ey, ec, nι⟩
  by_cases hlt : i < ws.length
  · rw [List.drop_eq_getElem_cons hlt] at ec
    unfold compL2 at ec
    split at ec
    case isFalse => cases ec
    rename_i c2
    refine .inr ⟨jok.go ι2 hh H' i e2.lo r2 c2 hlt, fun H => i + 1 ≤ ws.length ∧ ∃ (ι : Io) (h : AH) (acc : List W) (av : List V) (rest : List W), Ext ι1 H1 ι H ∧ RlH G ι h H ∧ H D = some (.lst av) ∧ RepWs G ι H acc av ∧ ys = acc ++ rest ∧ compL2 chk g mt own1 mi1 g1 mt1 me (wipR ρ own) (ws.drop (i + 1)) h = .ok rest h2 ∧ ∀ j, ι j ≠ some D,
      fun H' z => ⟨ws.length - (i + 1), by omega, z.1, rfl, z.2⟩, fun x H3 y => ?_⟩
    obtain ⟨x1, x2, w, x3, x4⟩ := jok.yld ι2 hh H' i x H3 e2.lo r2 c2 hlt y
    rw [List.getElem?_eq_getElem hlt] at x3
    cases x3
    split at ec
    case h_2 => cases ec
    rename_i ρ1 eg
    have e3 := e2.trans x1
    refine kg ι2 H3 _ x _ ρ1 _ _ ((re1.mono e3).wipe own) x4 eg fun σ2 re2 se2 => ⟨by rw [se2 own hsl, wipe_idem], ι2, ρ1, hh, x2, re2, ?_⟩
    cases et : mt ρ1 hh with
    | bad => rw [et] at ec; cases ec
    | err c fs h' => rw [et] at ec; cases ec
    | ok b h3 =>
      rw [et] at ec
      intro ι3 H4 e4 r3
      have e24 := x1.trans e4
      obtain ⟨hD4, n4⟩ := keepD e24 hD nι
      cases b with
      | false =>
        dsimp only at ec
        rw [if_neg Bool.false_ne_true]
        exact ⟨hlt, ι3, h3, acc, av, rest, e2.trans e24, r3, hD4, ra.mono e24, ey, ec, n4⟩
      | true =>
        dsimp only at ec
        rw [if_pos rfl]
        refine ⟨ι3, ρ1, h3, r3, re2.mono e4, ?_⟩
        have re3 := re2.mono e4
        cases ei : mi1 ρ1 h3 with
        | bad => rw [ei] at ec; cases ec
        | err c fs h' => rw [ei] at ec; cases ec
        | ok p1 h4 =>
          rw [ei] at ec
          obtain ⟨ws1, chk1⟩ := p1
          dsimp only at ec
          intro ι4 H5 J1 e5 r4 jok1 hl1
          dsimp only at jok1 hl1
          cases ea : compL chk1 g1 mt1 me (wipR ρ1 own1) ws1 h4 with
          | bad => rw [ea] at ec; cases ec
          | err c fs h' => rw [ea] at ec; cases ec
          | ok ys1 h5 =>
            rw [ea] at ec
            dsimp only at ec
            cases eb : compL2 chk g mt own1 mi1 g1 mt1 me (wipR ρ own) (ws.drop (i + 1)) h5 with
            | bad => rw [eb] at ec; cases ec
            | err c fs h' => rw [eb] at ec; cases ec
            | ok zs h6 =>
            rw [eb] at ec
            cases ec
            have e25 := e24.trans e5
            obtain ⟨hD5, n5⟩ := keepD e25 hD nι
            refine ⟨fun j k H => j ≤ ws1.length ∧ k = ws1.length - j ∧ ∃ (ι : Io) (h : AH) (acc1 : List W) (av1 : List V) (rest1 : List W), Ex0 ι4 H5 ι H ∧ Ext ι1 H1 ι H ∧ RlH G ι h H ∧ H D = some (.lst av1) ∧ RepWs G ι H acc1 av1 ∧ acc ++ ys1 = acc1 ++ rest1 ∧ compL chk1 g1 mt1 me (wipR ρ1 own1) (ws1.drop j) h = .ok rest1 h5 ∧ ∀ j, ι j ≠ some D,
              ⟨ws1.length, Nat.zero_le _, rfl, ι4, h4, acc, av, ys1, Ext.refl.lo, e2.trans e25, r4, hD5, ra.mono e25, rfl, ea, n5⟩, ?_⟩
            rintro j k H6 ⟨hj, rfl, ι6, h6, acc1, av1, rest1, e6, e16, r6, hD6, ra6, ey6, ec6, n6⟩
            by_cases hlt1 : j < ws1.length
            · rw [List.drop_eq_getElem_cons hlt1] at ec6
              unfold compL at ec6
              split at ec6
              case isFalse => cases ec6
              rename_i c6
              refine .inr ⟨jok1.go ι6 h6 H6 j e6 r6 c6 hlt1, fun H => j + 1 ≤ ws1.length ∧ ∃ (ι : Io) (h : AH) (acc1 : List W) (av1 : List V) (rest1 : List W), Ex0 ι4 H5 ι H ∧ Ext ι1 H1 ι H ∧ RlH G ι h H ∧ H D = some (.lst av1) ∧ RepWs G ι H acc1 av1 ∧ acc ++ ys1 = acc1 ++ rest1 ∧ compL chk1 g1 mt1 me (wipR ρ1 own1) (ws1.drop (j + 1)) h = .ok rest1 h5 ∧ ∀ j, ι j ≠ some D,
                fun H' z => ⟨ws1.length - (j + 1), by omega, z.1, rfl, z.2⟩, fun x' H7 y' => ?_⟩
              obtain ⟨z1, z2, w', z3, z4⟩ := jok1.yld ι6 h6 H6 j x' H7 e6 r6 c6 hlt1 y'
              rw [List.getElem?_eq_getElem hlt1] at z3
              cases z3
              split at ec6
              case h_2 => cases ec6
              rename_i ρ3 eg1
              have e67 := Ex0.trans e6 z1.lo
              refine kg1 ι6 H7 _ x' _ ρ3 _ _ ((re3.mono0 (Ex0.trans e5.lo e67)).wipe own1) z4 eg1 fun σ3 re7 se3 => ⟨by rw [se3 own1 hsl1, wipe_idem], ι6, ρ3, h6, z2, re7, ?_⟩
              cases et1 : mt1 ρ3 h6 with
              | bad => rw [et1] at ec6; cases ec6
              | err c fs h' => rw [et1] at ec6; cases ec6
              | ok b1 h7 =>
                rw [et1] at ec6
                intro ι8 H8 e8 r8
                have e68 := z1.trans e8
                obtain ⟨hD8, n8⟩ := keepD e68 hD6 n6
                cases b1 with
                | false =>
                  dsimp only at ec6
                  rw [if_neg Bool.false_ne_true]
                  exact ⟨hlt1, ι8, h7, acc1, av1, rest1, Ex0.trans e6 e68.lo, e16.trans e68, r8, hD8, ra6.mono e68, ey6, ec6, n8⟩
                | true =>
                  dsimp only at ec6
                  rw [if_pos rfl]
                  refine ⟨ι8, ρ3, h7, r8, re7.mono e8, ?_⟩
                  cases ee : me ρ3 h7 with
                  | bad => rw [ee] at ec6; cases ec6
                  | err c fs h' => rw [ee] at ec6; cases ec6
                  | ok yy h8 =>
                    rw [ee] at ec6
                    dsimp only at ec6
                    intro ι9 v H9 e9 r9 v9
                    have e69 := e68.trans e9
                    obtain ⟨hD9, n9⟩ := keepD e69 hD6 n6
                    cases eq : compL chk1 g1 mt1 me (wipR ρ1 own1) (ws1.drop (j + 1)) h8 with
                    | bad => rw [eq] at ec6; cases ec6
                    | err c fs h' => rw [eq] at ec6; cases ec6
                    | ok rs h9 =>
                      rw [eq] at ec6
                      cases ec6
                      have lo := loose_lst hD9
                      have ll : acc1.length < 1000000 := by
                        have q1 := congrArg List.length ey
                        have q2 := congrArg List.length ey6
                        simp only [List.length_append, List.length_cons] at q1 q2
                        omega
                      refine ⟨av1, hD9, by rw [← ra6.length]; have := million (n := acc1.length + 1) (by omega); omega, hlt1, ι9, h8, acc1 ++ [yy], av1 ++ [v], rs, ⟨fun i a h => e69.up i a (e6.up i a h), (e6.st.trans e69.st).trans (Stb.write lo)⟩, (e16.trans e69).after (Trk.no nD) lo, r9.off n9 lo, upd_same, RepWs.mono0 (Ex0.off lo) (reps_snoc v9 (ra6.mono e69)), by rw [ey6]; simp, eq, n9⟩
            · have e : j = ws1.length := by omega
              subst e
              rw [List.drop_length] at ec6
              unfold compL at ec6
              split at ec6
              · rename_i c6
                cases ec6
                rw [List.append_nil] at ey6
                subst ey6
                exact .inl ⟨jok1.stop ι6 _ H6 e6 r6 c6, hlt, ι6, _, _, av1, zs, e16, r6, hD6, ra6, by rw [ey, List.append_assoc], eb, n6⟩
              · cases ec6
  · have e : i = ws.length := by omega
    subst e
    rw [List.drop_length] at ec
    unfold compL2 at ec
    split at ec
    · rename_i c2
      cases ec
      rw [List.append_nil] at ey
      subst ey
      exact .inl ⟨jok.stop ι2 _ H' e2.lo r2 c2, fin ι2 H' D av (e1.trans e2) r2 hD ra nι (e1.none_back nD)⟩
    · cases ec
/-- what such a comprehension's list comes to -/
noncomputable def comp2O (own own1 : List Nat) (mi : SemI) (g : SemG) (mt : SemT) (mi1 : SemI) (g1 : SemG) (mt1 : SemT) (me : SemE) : SemA := fun ρ h => (mi ρ h).bind fun p h1 => match compL2 p.2 g mt own1 mi1 g1 mt1 me (wipR ρ own) p.1 h1 with
  | .ok ys h2 => if ys.length ≤ 1000000 then .ok ys h2 else .bad
  | _ => .bad
theorem comp2O_to {own own1 : List Nat} {mi mi1 : SemI} {g g1 : SemG} {mt mt1 : SemT} {me : SemE} {ρ : Env'} {h : AH} {P : List W → AH → Prop} {R} (q : (comp2O own own1 mi g mt mi1 g1 mt1 me ρ h).to P R) : (mi ρ h).to (fun p h1 => ∃ ys h2, compL2 p.2 g mt own1 mi1 g1 mt1 me (wipR ρ own) p.1 h1 = .ok ys h2 ∧ ys.length ≤ 1000000 ∧ P ys h2) R := by
  unfold comp2O at q
  rw [to_bind] at q
  refine Out.to_mono q (fun p h1 z => ?_) fun _ _ _ z => z
  split at z
  · rename_i ys h2 e
    split at z
    · rename_i hl
      exact ⟨ys, h2, e, hl, z⟩
    · exact z.elim
  · exact z.elim
noncomputable def eComp2 (own own1 : List Nat) (mi : SemI) (g : SemG) (mt : SemT) (mi1 : SemI) (g1 : SemG) (mt1 : SemT) (me : SemE) : SemE := fun ρ h => (comp2O own own1 mi g mt mi1 g1 mt1 me ρ h).bind fun ys h2 => .ofOpt ((allD ys).map fun ds => .d (.list ds)) h2
noncomputable def sSetLc2 (i : Nat) (own own1 : List Nat) (mi : SemI) (g : SemG) (mt : SemT) (mi1 : SemI) (g1 : SemG) (mt1 : SemT) (me : SemE) : SemS := fun ρ h => (comp2O own own1 mi g mt mi1 g1 mt1 me ρ h).st fun ys h2 => match allD ys with
  | some ds => .nx (ρ.set i (some (.d (.list ds)))) h2
  | none => .bad
section
variable {pos : Pos} {elt tg iter tg1 iter1 : Expr} {ifs ifs1 : List Expr} {scope : Scope} {own : List (Str × Nat)} {own1 sl sl1 : List Nat} {mi mi1 : SemI} {g g1 : SemG} {mt mt1 : SemT} {me : SemE}
theorem je_comp2 (hc : X.calm = true) (hN : X.N.Nodup) (hi : JI G X mi tg iter) (ok : BlkOk X.N X.env.scope scope own) (hsl : ∀ i ∈ sl, i ∈ own.map (·.2)) (hsl1 : ∀ i ∈ sl1, i ∈ own1) (hv : ∀ i ∈ own1, i ∈ own.map (·.2)) (hg : JGB G X scope g sl tg) (hg1 : JGB G X scope g1 sl1 tg1)
    (ht : ∀ (s : Shared) (H : Hp) (C : Addr) (cl : List (Str × Addr)) (fp : List Addr), JTs G (X.blk s H scope (compEnvC scope cl C X.env) fp) mt ifs)
    (hi1 : ∀ (s : Shared) (H : Hp) (C : Addr) (cl : List (Str × Addr)) (fp : List Addr), JI G (X.blk s H scope (compEnvC scope cl C X.env) fp) mi1 tg1 iter1)
    (ht1 : ∀ (s : Shared) (H : Hp) (C : Addr) (cl : List (Str × Addr)) (fp : List Addr), JTs G (X.blk s H scope (compEnvC scope cl C X.env) fp) mt1 ifs1)
    (he : ∀ (s : Shared) (H : Hp) (C : Addr) (cl : List (Str × Addr)) (fp : List Addr), JE G (X.blk s H scope (compEnvC scope cl C X.env) fp) me elt) (hs : ∀ x, foldedSetIterable iter X.env x = pure x := by intro _; rfl) (hs1 : ∀ env x, foldedSetIterable iter1 env x = pure x := by intro _ _; rfl) :
    JE G X (eComp2 (own.map (·.2)) own1 mi g mt mi1 g1 mt1 me) (.ListComp elt [⟨tg, iter, ifs, 0⟩, ⟨tg1, iter1, ifs1, 0⟩] scope pos) := fun U t => by
  obtain ⟨r, pg, kg⟩ := hg
  obtain ⟨r1, pg1, kg1⟩ := hg1
  refine (pe_frz (pe_lc2 hc hN (hi U t) ok hv pg (fun s H C cl fp => ht s H C cl fp U0 L2.takes0) (fun s H C cl fp => hi1 s H C cl fp U0 L2.takes0) pg1 (fun s H C cl fp => ht1 s H C cl fp U0 L2.takes0) (fun s H C cl fp => he s H C cl fp U0 L2.takes0) hs hs1)).imp fun σ H Q h => ?_
  obtain ⟨ι, ρ, h0, rh, re, q⟩ := h
  unfold eComp2 at q
  rw [to_bind] at q
  refine tLc2_of rh re hsl hsl1 kg kg1 (Out.to_mono (comp2O_to q) (fun p h1 ⟨ys, h2, e, hl, z⟩ => ⟨ys, h2, e, hl, fun ι' H' D vs x r2 hD rv nj nt => ?_⟩) fun _ _ _ z => z)
  obtain ⟨w, ew, k⟩ := to_ofOpt z
  cases hd : allD ys with
  | none => rw [hd] at ew; cases ew
  | some ds =>
    rw [hd] at ew
    cases ew
    refine .inr ⟨D, vs, rfl, hD, fun o => ?_⟩
    have rd := allD_rep hd rv
    have lo : Loose H' D := loose_lst hD
    exact k ι' _ _ (x.after nt lo (fun ps z => by unfold frzO at z; cases z)) (r2.off nj lo) (.lst upd_same (RepDs.mono (Stb.write lo) _ _ rd))
theorem js_setLc2 {i : Nat} {y : Str} {py lpos : Pos} (hc : X.calm = true) (hN : X.N.Nodup) (hy : X.N[i]? = some y) (hyl : X.env.scope.names.lookup y = some .local)
    (hsw : swapsWith (.ListComp elt [⟨tg, iter, ifs, 0⟩, ⟨tg1, iter1, ifs1, 0⟩] scope lpos) (some (.Name y py)) pos.line X.env = pure true) (hi : JI G X mi tg iter) (ok : BlkOk X.N X.env.scope scope own) (hsl : ∀ i ∈ sl, i ∈ own.map (·.2)) (hsl1 : ∀ i ∈ sl1, i ∈ own1) (hv : ∀ i ∈ own1, i ∈ own.map (·.2)) (hg : JGB G X scope g sl tg) (hg1 : JGB G X scope g1 sl1 tg1)
    (ht : ∀ (s : Shared) (H : Hp) (C : Addr) (cl : List (Str × Addr)) (fp : List Addr), JTs G (X.blk s H scope (compEnvC scope cl C X.env) fp) mt ifs)
    (hi1 : ∀ (s : Shared) (H : Hp) (C : Addr) (cl : List (Str × Addr)) (fp : List Addr), JI G (X.blk s H scope (compEnvC scope cl C X.env) fp) mi1 tg1 iter1)
    (ht1 : ∀ (s : Shared) (H : Hp) (C : Addr) (cl : List (Str × Addr)) (fp : List Addr), JTs G (X.blk s H scope (compEnvC scope cl C X.env) fp) mt1 ifs1)
    (he : ∀ (s : Shared) (H : Hp) (C : Addr) (cl : List (Str × Addr)) (fp : List Addr), JE G (X.blk s H scope (compEnvC scope cl C X.env) fp) me elt) (hs : ∀ x, foldedSetIterable iter X.env x = pure x := by intro _; rfl) (hs1 : ∀ env x, foldedSetIterable iter1 env x = pure x := by intro _ _; rfl) :
    JS G X (sSetLc2 i (own.map (·.2)) own1 mi g mt mi1 g1 mt1 me) (.Assign [.Name y py] (.ListComp elt [⟨tg, iter, ifs, 0⟩, ⟨tg1, iter1, ifs1, 0⟩] scope lpos) pos) := fun U t => by
  obtain ⟨r, pg, kg⟩ := hg
  obtain ⟨r1, pg1, kg1⟩ := hg1
  refine (ps_frz (ps_setLc2 hc hN hy hyl hsw (hi U t) ok hv pg (fun s H C cl fp => ht s H C cl fp U0 L2.takes0) (fun s H C cl fp => hi1 s H C cl fp U0 L2.takes0) pg1 (fun s H C cl fp => ht1 s H C cl fp U0 L2.takes0) (fun s H C cl fp => he s H C cl fp U0 L2.takes0) hs hs1)).imp fun D σ H h => ?_
  obtain ⟨ι, ρ, h0, rh, re, q⟩ := h
  have q := st_to (σ := σ) q
  refine tLc2_of rh re hsl hsl1 kg kg1 (Out.to_mono (comp2O_to q) (fun p h1 ⟨ys, h2, e, hl, z⟩ => ⟨ys, h2, e, hl, fun ι' H' D' vs x r2 hD rv nj nt => .inr ⟨D', vs, hD, fun o => ?_⟩⟩) fun _ _ _ z => z)
  split at z
  · rename_i ds hd
    have rd := allD_rep hd rv
    have lo : Loose H' D' := loose_lst hD
    have no : ∀ ps, frzO vs o ≠ .tbl ps := fun ps z => by unfold frzO at z; cases z
    have x2 : Ext ι H ι' (upd H' D' (frzO vs o)) := x.after nt lo no
    exact z ι' _ _ x2 (r2.off nj lo) ((re.mono x2).set (show RepW G ι' _ (.d (.list ds)) (.ref D') from .lst upd_same (RepDs.mono (Stb.write lo) _ _ rd)))
  · exact z.elim
end
end
end Q

set_option Elab.async false
set_option maxRecDepth 100000
set_option linter.all false
set_option autoImplicit false
/-! SD: list(range(..)), a, b, .. = x, y, .. in general. -/
namespace Q
open PySem PySem.Spec PyProof.Rows L2 LamX

def rngD (a b : Int) : List PyData := (List.range (b - a).toNat).map fun (i : Nat) => PyData.int (a + (i : Int))
theorem rep_rng {K : PySem.W.Frag} {H : Hp} (a b : Int) : RepDs K H (rgV a b) (rngD a b) := by
  unfold rgV rngD
  generalize List.range (b - a).toNat = l
  induction l with
  | nil => exact .nil
  | cons x l ih => exact .cons (.int _) ih
section
variable {G : Gd} {X : Cx} {pos p p' : Pos} {e : Expr} {ma mb : SemE}
def eListR (ma mb : SemE) : SemE := fun ρ h => (ma ρ h).bind fun x h1 => (mb ρ h1).bind fun y h2 => match x, y with
  | .d (.int i), .d (.int j) => if 0 ≤ i ∧ i ≤ 1000000 ∧ 0 ≤ j ∧ j ≤ 1000000 then .ok (.d (.list (rngD i j))) h2 else .bad
  | _, _ => .bad
def eList0 (mb : SemE) : SemE := fun ρ h => (mb ρ h).bind fun y h2 => match y with
  | .d (.int j) => if 0 ≤ j ∧ j ≤ 1000000 then .ok (.d (.list (rngD 0 j))) h2 else .bad
  | _ => .bad
theorem je_list1 {pos2 : Pos} (hc : X.calm = true) (hg : Gl X "list") (hm : X.mg "list" = none) (hg2 : Gl X "range") (hm2 : X.mg "range" = none) (hb : JE G X mb e) (na : starEach [e] X.env = (false, eval e X.env) :: starEach [] X.env := by rfl) (na2 : starEach [.Call (.Name "range" p') [e] [] pos] X.env = (false, eval (.Call (.Name "range" p') [e] [] pos) X.env) :: starEach [] X.env := by rfl) :
    JE G X (eList0 mb) (.Call (.Name "list" p) [.Call (.Name "range" p') [e] [] pos] [] pos2) := fun U t =>
  (pe_frz (pe_listRg hc hg hm (prg_1 hg2 hm2 (hb U t) na) na2)).imp fun σ H Q h => by
    obtain ⟨ι, ρ, h0, rh, re, q⟩ := h
    unfold eList0 at q
    rw [to_bind] at q
    refine ⟨ι, ρ, h0, rh, re, Out.to_mono q (fun x h1 z ι1 v H1 e1 r1 v1 => ?_) fun _ _ _ z => z⟩
    split at z
    · rename_i j
      split at z
      · rename_i hj
        cases v1
        refine ⟨j, rfl, RgOk.of_le (by omega) (by omega) (by omega) (by omega), fun q nq => .inr ⟨q, _, rfl, upd_same, fun o => ?_⟩⟩
        rw [upd2]
        exact z ι1 _ _ (e1.trans (.fresh nq)) (r1.fresh nq) (.lst upd_same (rep_rng 0 j))
      · exact z.elim
    · exact z.elim
theorem je_list2 {e2 : Expr} {pos2 : Pos} (hc : X.calm = true) (hg : Gl X "list") (hm : X.mg "list" = none) (hg2 : Gl X "range") (hm2 : X.mg "range" = none) (ha : JE G X ma e) (hb : JE G X mb e2) (na : starEach [e, e2] X.env = (false, eval e X.env) :: starEach [e2] X.env := by rfl) (nb : starEach [e2] X.env = (false, eval e2 X.env) :: starEach [] X.env := by rfl) (hp : (backTo pos (starEach [e2] X.env)).any (·.1) = false := by rfl) (na2 : starEach [.Call (.Name "range" p') [e, e2] [] pos] X.env = (false, eval (.Call (.Name "range" p') [e, e2] [] pos) X.env) :: starEach [] X.env := by rfl) :
    JE G X (eListR ma mb) (.Call (.Name "list" p) [.Call (.Name "range" p') [e, e2] [] pos] [] pos2) := fun U t =>
  (pe_frz (pe_listRg hc hg hm (prg_2 hg2 hm2 (ha U t) (hb U t) na nb hp) na2)).imp fun σ H Q h => by
    obtain ⟨ι, ρ, h0, rh, re, q⟩ := h
    unfold eListR at q
    rw [to_bind] at q
    refine ⟨ι, ρ, h0, rh, re, Out.to_mono q (fun x h1 z ι1 v H1 e1 r1 v1 => ?_) fun _ _ _ z => z⟩
    rw [to_bind] at z
    refine ⟨ι1, ρ, h1, r1, re.mono e1, Out.to_mono z (fun y h2 z2 ι2 u H2 e2 r2 u2 => ?_) fun _ _ _ z2 => z2.up e1⟩
    split at z2
    · rename_i i j
      split at z2
      · rename_i hj
        cases v1
        cases u2
        refine ⟨i, j, rfl, rfl, RgOk.of_le (by omega) (by omega) (by omega) (by omega), fun q nq => .inr ⟨q, _, rfl, upd_same, fun o => ?_⟩⟩
        rw [upd2]
        exact z2 ι2 _ _ ((e1.trans e2).trans (.fresh nq)) (r2.fresh nq) (.lst upd_same (rep_rng i j))
      · exact z2.elim
    · exact z2.elim
/-! ### a, b, .. = x, y, .. -/
def sParG (n : Nat) (gs : SemGs) (ms : SemA) : SemS := fun ρ h => (ms ρ h).st fun xs h1 => if xs.length = n ∧ n ≤ 1000 then (match gs xs ρ with
  | some ρ' => .nx ρ' h1
  | none => .bad) else .bad
theorem js_parG {n j k2 : Nat} {gs : SemGs} {ms : SemA} {sl : List Nat} {ts es : List Expr} {pt pt2 : Pos} (hc : X.calm = true) (hK : X.K = G.K) (ha : JA G X ms es) (h : JGs G X gs sl ts) (hn : (assignEach ts X.env).length = n := by rfl) (hst : (assignEach ts X.env).findIdx? (·.1) = none := by rfl)
    (hs : swapsWithSole [.Tuple ts j pt] (.Tuple es k2 pt2) pos.line X.env = pure false := by rfl) (hw : swappedStores [.Tuple ts j pt] (.Tuple es k2 pt2) X.env = pure none := by rfl)
    (h1 : (assignEach [.Tuple ts j pt] X.env).map (·.2) = [assign (.Tuple ts j pt) X.env] := by rfl) : JS G X (sParG n gs ms) (.Assign [.Tuple ts j pt] (.Tuple es k2 pt2) pos) := fun U t => by
  obtain ⟨r, pg, kg⟩ := h
  refine (ps_asg (pe_tup (ha U t)) (pg_tup hc pg hn hst) hs hw h1).imp fun D σ H h => ?_
  refine rdSA_bind (k := fun xs ρ h1 => if xs.length = n ∧ n ≤ 1000 then (match gs xs ρ with
    | some ρ' => .nx ρ' h1
    | none => .bad) else .bad) h fun ι1 ρ xs h1 vs H1 r1 re1 v1 q => ?_
  split at q
  · rename_i hx
    split at q
    · rename_i ρ' eg
      refine ⟨line1000 (by rw [← v1.length]; omega), fun p np => ⟨p, vs, rfl, .inl (.inl upd_same), by rw [← v1.length]; exact hx.1, ?_⟩⟩
      exact kg ι1 _ xs vs ρ ρ' σ _ (re1.mono (Ext.fresh np)) (v1.mono (Ext.fresh np)) eg fun σ' re' _ => q ι1 σ' _ (Ext.fresh np) (r1.fresh np) re'
    · exact q.elim
  · exact q.elim
end
end Q

set_option Elab.async false
set_option maxRecDepth 100000
set_option linter.all false
set_option autoImplicit false
set_option maxHeartbeats 4000000
/-! printed by gen.py -/
namespace Q
open PySem PySem.Spec PyProof.Rows L2 LamX
/-! ### the semantic functions -/
def CLS : ClsT := ⟨["Trust"], ["PurseError", "BadBank", "BadCharter", "BadContent", "BadName", "BadOwner", "BadPayment", "BadPurse", "BadTrust", "BadWho"], [("BadBank", "PurseError"), ("BadCharter", "PurseError"), ("BadContent", "PurseError"), ("BadName", "PurseError"), ("BadOwner", "PurseError"), ("BadPayment", "PurseError"), ("BadPurse", "PurseError"), ("BadTrust", "PurseError"), ("BadWho", "PurseError")]⟩
def ERRS : List String := ["PurseError", "BadBank", "BadCharter", "BadContent", "BadName", "BadOwner", "BadPayment", "BadPurse", "BadTrust", "BadWho"]
/-- Trust.__init__(self); slots: 0 self -/
noncomputable def b_Trust___init__ : SemS :=
    (sSeq (sFldS "Trust" "contents" (eVar 0) (eLstH aNil))
    (sSeq (sFldS "Trust" "names" (eVar 0) eDctH)
    (sFldS "Trust" "seals" (eVar 0) eDctH)))
noncomputable def f_Trust___init__ : Fn := mkFn 1 b_Trust___init__
/-- is_number(value, low); slots: 0 value, 1 low -/
noncomputable def b_is_number : SemS :=
    (sRet (eAnd (eUn (isiO (isiB CLS "int")) (eVar 0)) (eAnd (eNot (eUn (isiO (isiB CLS "bool")) (eVar 0))) (eChain leO ltO (eVar 1) (eVar 0) (eC (.int 1000000000000000000))))))
noncomputable def f_is_number : Fn := mkFn 2 b_is_number
/-- has_name_form(value); slots: 0 value -/
noncomputable def b_has_name_form : SemS :=
    (sRet (eAnd (eUn (isiO (isiB CLS "tuple")) (eVar 0)) (eAnd (eOp eqO (eApp lenO (aCons (eVar 0) aNil)) (eC (.int 2))) (eAnd (eUn (isiO (isiB CLS "str")) (eOp ixO (eVar 0) (eC (.int 0)))) (eAnd (eOp eqO (eOp ixO (eVar 0) (eC (.int 0))) (eC (.str "name"))) (eCall 2 f_is_number (aCons (eOp ixO (eVar 0) (eC (.int 1))) (aCons (eC (.int 0)) aNil))))))))
noncomputable def f_has_name_form : Fn := mkFn 1 b_has_name_form
/-- Trust.is_name(self, value); slots: 0 self, 1 value -/
noncomputable def b_Trust_is_name : SemS :=
    (sRet (eAnd (eCall 1 f_has_name_form (aCons (eVar 1) aNil)) (eOp ltO (eOp ixO (eVar 1) (eC (.int 1))) (eApp lenO (aCons (eFld "Trust" "contents" (eVar 0)) aNil)))))
noncomputable def f_Trust_is_name : Fn := mkFn 2 b_Trust_is_name
/-- is_plain(item); slots: 0 item -/
noncomputable def b_is_plain : SemS :=
    (sSeq (sIf (tOrS (tOf (eOp isO (eVar 0) (eC .none))) (tOf (eUn (isiO (isiB CLS "str")) (eVar 0)))) (sRet (eC (.bool true))) sNil)
    (sRet (eAnd (eUn (isiO (isiB CLS "int")) (eVar 0)) (eAnd (eNot (eUn (isiO (isiB CLS "bool")) (eVar 0))) (eOp ltO (eApp absO (aCons (eVar 0) aNil)) (eC (.int 1000000000000000000)))))))
noncomputable def f_is_plain : Fn := mkFn 1 b_is_plain
/-- parts_within(value); slots: 0 value, 1 found, 2 left, 3 item -/
noncomputable def b_parts_within : SemS :=
    (sSeq (sPar 1 2 (aCons (eLstH aNil) (aCons (eLstH (aCons (eVar 0) aNil)) aNil)))
    (sSeq (sWhile (tOf (eOp neO (eVar 2) (eLstD aNil))) (sSeq (sSet 3 (eMt popM (eVar 2) aNil))
    (sIf (tAndS (tOf (eUn (isiO (isiB CLS "tuple")) (eVar 3))) (tNotS (tOf (eCall 1 f_has_name_form (aCons (eVar 3) aNil))))) (sExpr (eMt extendM (eVar 2) (aCons (eVar 3) aNil))) (sExpr (eMt appendM (eVar 1) (aCons (eVar 3) aNil))))))
    (sRet (eVar 1))))
noncomputable def f_parts_within : Fn := mkFn 4 b_parts_within
/-- Trust.name(self, content); slots: 0 self, 1 content, 2 item -/
noncomputable def b_Trust_name : SemS :=
    (sSeq (sIf (tNotS (tOf (eApp allO (aCons (eComp [2] (iSeq (eCall 1 f_parts_within (aCons (eVar 1) aNil))) (gN 2) tYesS (eOr (eMeth "Trust" "is_name" 2 f_Trust_is_name (eVar 0) (aCons (eVar 2) aNil)) (eCall 1 f_is_plain (aCons (eVar 2) aNil)))) aNil)))) (sRaise "BadContent") sNil)
    (sSeq (sIf (tOf (eOp notInO (eVar 1) (eFld "Trust" "names" (eVar 0)))) (sSeq (sPut (eFld "Trust" "names" (eVar 0)) (eVar 1) (eTup (aCons (eC (.str "name")) (aCons (eApp lenO (aCons (eFld "Trust" "contents" (eVar 0)) aNil)) aNil))))
    (sExpr (eMt appendM (eFld "Trust" "contents" (eVar 0)) (aCons (eVar 1) aNil)))) sNil)
    (sRet (eOp ixO (eFld "Trust" "names" (eVar 0)) (eVar 1)))))
noncomputable def f_Trust_name : Fn := mkFn 3 b_Trust_name
/-- _law_blend(tape); slots: 0 tape, 1 turn, 2 found, 3 great, 4 blended, 5 grain -/
noncomputable def b__law_blend : SemS :=
    (sSeq (sPut (eVar 0) (eC (.str "turn")) (eOp addO (eOp ixO (eVar 0) (eC (.str "turn"))) (eC (.int 1))))
    (sSeq (sPar 1 2 (aCons (eApp intO (aCons (eOp ixO (eVar 0) (eC (.str "turn"))) aNil)) (aCons (eC (.int 0)) aNil)))
    (sSeq (sFor (iSeq (eLstD (aCons (eC (.int 2147483629)) (aCons (eC (.int 2147483587)) (aCons (eC (.int 2147483579)) aNil))))) (gN 3) (sSeq (sSet 4 (eOp modO (eOp addO (eOp mulO (eVar 1) (eC (.int 69621))) (eOp fdivO (eVar 3) (eC (.int 7)))) (eVar 3)))
    (sSeq (sFor (iSeq (eOp ixO (eVar 0) (eC (.str "cells")))) (gN 5) (sSet 4 (eOp modO (eOp addO (eOp mulO (eVar 4) (eC (.int 48271))) (eApp intO (aCons (eVar 5) aNil))) (eVar 3))))
    (sSet 2 (eOp addO (eOp mulO (eVar 2) (eC (.int 2147483647))) (eOp modO (eOp powO (eVar 4) (eC (.int 5))) (eVar 3)))))))
    (sRet (eVar 2)))))
noncomputable def f__law_blend : Fn := mkFn 6 b__law_blend
/-- _law_draw(tape, size); slots: 0 tape, 1 size, 2 found -/
noncomputable def b__law_draw : SemS :=
    (sSeq (sIf (tOf (eOp eqO (eOp ixO (eVar 0) (eC (.str "rest"))) (eC (.int 0)))) (sPut (eVar 0) (eC (.str "rest")) (eIf (tOf (eOp neO (eOp ixO (eVar 0) (eC (.str "large"))) (eLstD aNil))) (eMt popAtM (eOp ixO (eVar 0) (eC (.str "large"))) (aCons (eC (.int 0)) aNil)) (eCall 1 f__law_blend (aCons (eVar 0) aNil)))) sNil)
    (sSeq (sSet 2 (eOp modO (eApp intO (aCons (eOp ixO (eVar 0) (eC (.str "rest"))) aNil)) (eVar 1)))
    (sSeq (sPut (eVar 0) (eC (.str "rest")) (eOp fdivO (eApp intO (aCons (eOp ixO (eVar 0) (eC (.str "rest"))) aNil)) (eVar 1)))
    (sRet (eVar 2)))))
noncomputable def f__law_draw : Fn := mkFn 3 b__law_draw
/-- _law_pick(tape, several); slots: 0 tape, 1 several -/
noncomputable def b__law_pick : SemS :=
    (sRet (eOp ixO (eVar 1) (eCall 2 f__law_draw (aCons (eVar 0) (aCons (eApp lenO (aCons (eVar 1) aNil)) aNil)))))
noncomputable def f__law_pick : Fn := mkFn 2 b__law_pick
/-- _law_bank(tape, purses); slots: 0 tape, 1 purses, 2 lies, 3 begin, 4 purse -/
noncomputable def b__law_bank : SemS :=
    (sSeq (sSet 2 (eCall 2 f__law_draw (aCons (eVar 0) (aCons (eC (.int 3)) aNil))))
    (sSeq (sSet 3 (eApp tupleO (aCons (eComp [4] (iRange1 (eOp addO (eC (.int 1)) (eCall 2 f__law_draw (aCons (eVar 0) (aCons (eVar 1) aNil))))) (gN 4) tYesS (eCall 2 f__law_pick (aCons (eVar 0) (aCons (eLstD (aCons (eC (.int 0)) (aCons (eC (.int 1)) (aCons (eC (.int 3)) (aCons (eC (.int 5)) (aCons (eC (.int 9)) aNil)))))) aNil)))) aNil)))
    (sRet (eTup (aCons (eVar 3) (aCons (eOp addO (eOp addO (eOp mulO (eC (.int 3)) (eVar 2)) (eC (.int 1))) (eCall 2 f__law_draw (aCons (eVar 0) (aCons (eC (.int 3)) aNil)))) (aCons (eVar 2) aNil)))))))
noncomputable def f__law_bank : Fn := mkFn 5 b__law_bank
/-- _law_begun(script); slots: 0 script, 1 large, 2 grain -/
noncomputable def b__law_begun : SemS :=
    (sSeq (sSetLcH 1 [2] (iSeq (eVar 0)) (gN 2) (tOf (eOp geO (eApp absO (aCons (eVar 2) aNil)) (eOp powO (eC (.int 10)) (eC (.int 18))))) (eOp subO (eApp absO (aCons (eVar 2) aNil)) (eOp powO (eC (.int 10)) (eC (.int 18)))))
    (sRet (eDisp ["large", "rest", "cells", "turn"] (aCons (eVar 1) (aCons (eC (.int 0)) (aCons (eComp [2] (iSeq (eVar 0)) (gN 2) tYesS (eApp absO (aCons (eVar 2) aNil))) (aCons (eC (.int 0)) aNil)))))))
noncomputable def f__law_begun : Fn := mkFn 3 b__law_begun
/-- _law_shuffled(tape, several); slots: 0 tape, 1 several, 2 left, 3 found -/
noncomputable def b__law_shuffled : SemS :=
    (sSeq (sPar 2 3 (aCons (eListH (aCons (eVar 1) aNil)) (aCons (eLstH aNil) aNil)))
    (sSeq (sWhile (tOf (eOp neO (eVar 2) (eLstD aNil))) (sExpr (eMt appendM (eVar 3) (aCons (eMt popAtM (eVar 2) (aCons (eCall 2 f__law_draw (aCons (eVar 0) (aCons (eApp lenO (aCons (eVar 2) aNil)) aNil))) aNil)) aNil))))
    (sRet (eVar 3))))
noncomputable def f__law_shuffled : Fn := mkFn 4 b__law_shuffled
/-- _law_charter(tape); slots: 0 tape, 1 many, 2 proposers, 3 first, 4 lots, 5 owner -/
noncomputable def b__law_charter : SemS :=
    (sSeq (sSet 1 (eOp addO (eC (.int 1)) (eCall 2 f__law_draw (aCons (eVar 0) (aCons (eC (.int 5)) aNil)))))
    (sSeq (sSet 2 (eApp tupleO (aCons (eApp sortedO (aCons (eSl (eCall 2 f__law_shuffled (aCons (eVar 0) (aCons (eList0 (eVar 1)) aNil))) oN (oS (eOp addO (eC (.int 1)) (eCall 2 f__law_draw (aCons (eVar 0) (aCons (eVar 1) aNil)))))) aNil)) aNil)))
    (sSeq (sSet 3 (eApp tupleO (aCons (eApp sortedO (aCons (eSl (eCall 2 f__law_shuffled (aCons (eVar 0) (aCons (eList0 (eVar 1)) aNil))) oN (oS (eOp addO (eC (.int 1)) (eCall 2 f__law_draw (aCons (eVar 0) (aCons (eVar 1) aNil)))))) aNil)) aNil)))
    (sSeq (sSet 4 (eOp addO (eLstD (aCons (eVar 3) aNil)) (eComp [5] (iRange1 (eVar 1)) (gN 5) (tAndS (tOf (eOp notInO (eVar 5) (eVar 3))) (tOf (eOp eqO (eCall 2 f__law_draw (aCons (eVar 0) (aCons (eC (.int 2)) aNil))) (eC (.int 0))))) (eTup (aCons (eVar 5) aNil)))))
    (sRet (eTup (aCons (eVar 1) (aCons (eVar 2) (aCons (eApp tupleO (aCons (eApp sortedO (aCons (eVar 4) aNil)) aNil)) aNil)))))))))
noncomputable def f__law_charter : Fn := mkFn 6 b__law_charter
/-- _law_near(charter); slots: 0 charter, 1 many, 2 proposers, 3 lots, 4 found, 5 lot -/
noncomputable def b__law_near : SemS :=
    (sSeq (sAsg (gT 3 (gsCons (gN 1) (gsCons (gN 2) (gsCons (gN 3) gsNil)))) (eVar 0))
    (sSeq (sSet 4 (eLstD (aCons (eC .none) (aCons (eApp listO (aCons (eVar 0) aNil)) (aCons (eOp addO (eVar 0) (eTup (aCons (eC (.int 0)) aNil))) (aCons (eTup (aCons (eC (.int 0)) (aCons (eVar 2) (aCons (eVar 3) aNil)))) (aCons (eTup (aCons (eC (.int 7)) (aCons (eVar 2) (aCons (eVar 3) aNil)))) (aCons (eTup (aCons (eC (.bool true)) (aCons (eVar 2) (aCons (eVar 3) aNil)))) (aCons (eTup (aCons (eVar 1) (aCons (eTup aNil) (aCons (eVar 3) aNil)))) aNil)))))))))
    (sSeq (sSet 4 (eOp addO (eVar 4) (eLstD (aCons (eTup (aCons (eVar 1) (aCons (eOp addO (eUn revO (eVar 2)) (eVar 2)) (aCons (eVar 3) aNil)))) (aCons (eTup (aCons (eVar 1) (aCons (eTup (aCons (eVar 1) aNil)) (aCons (eVar 3) aNil)))) (aCons (eTup (aCons (eVar 1) (aCons (eApp listO (aCons (eVar 2) aNil)) (aCons (eVar 3) aNil)))) (aCons (eTup (aCons (eVar 1) (aCons (eVar 2) (aCons (eTup aNil) aNil)))) aNil)))))))
    (sSeq (sSet 4 (eOp addO (eVar 4) (eLstD (aCons (eTup (aCons (eVar 1) (aCons (eVar 2) (aCons (eOp addO (eVar 3) (eSl (eVar 3) oN (oS (eC (.int 1))))) aNil)))) (aCons (eTup (aCons (eVar 1) (aCons (eVar 2) (aCons (eTup (aCons (eTup aNil) aNil)) aNil)))) (aCons (eTup (aCons (eVar 1) (aCons (eVar 2) (aCons (eApp listO (aCons (eVar 3) aNil)) aNil)))) (aCons (eTup (aCons (eVar 1) (aCons (eVar 2) (aCons (eTup (aCons (eTup (aCons (eVar 1) aNil)) aNil)) aNil)))) aNil)))))))
    (sRet (eOp addO (eVar 4) (eLstD (aCons (eTup (aCons (eVar 1) (aCons (eVar 2) (aCons (eApp tupleO (aCons (eComp [5] (iSeq (eVar 3)) (gN 5) tYesS (eApp listO (aCons (eVar 5) aNil))) aNil)) aNil)))) aNil))))))))
noncomputable def f__law_near : Fn := mkFn 6 b__law_near
/-- is_who(value); slots: 0 value -/
noncomputable def b_is_who : SemS :=
    (sSeq (sIf (tOrS (tNotS (tOf (eUn (isiO (isiB CLS "tuple")) (eVar 0)))) (tOrS (tOf (eOp neO (eApp lenO (aCons (eVar 0) aNil)) (eC (.int 2)))) (tNotS (tOf (eUn (isiO (isiB CLS "str")) (eOp ixO (eVar 0) (eC (.int 0)))))))) (sRet (eC (.bool false))) sNil)
    (sRet (eAnd (eOp inO (eOp ixO (eVar 0) (eC (.int 0))) (eTup (aCons (eC (.str "owner")) (aCons (eC (.str "member")) aNil)))) (eCall 2 f_is_number (aCons (eOp ixO (eVar 0) (eC (.int 1))) (aCons (eC (.int 0)) aNil))))))
noncomputable def f_is_who : Fn := mkFn 1 b_is_who
/-- Trust.seal(self, who, name); slots: 0 self, 1 who, 2 name -/
noncomputable def b_Trust_seal : SemS :=
    (sSeq (sIf (tNotS (tOf (eCall 1 f_is_who (aCons (eVar 1) aNil)))) (sRaise "BadWho") sNil)
    (sSeq (sIf (tNotS (tOf (eMeth "Trust" "is_name" 2 f_Trust_is_name (eVar 0) (aCons (eVar 2) aNil)))) (sRaise "BadName") sNil)
    (sPut (eFld "Trust" "seals" (eVar 0)) (eTup (aCons (eVar 1) (aCons (eVar 2) aNil))) (eC (.bool true)))))
noncomputable def f_Trust_seal : Fn := mkFn 3 b_Trust_seal
/-- _law_is_bool(value, due); slots: 0 value, 1 due -/
noncomputable def b__law_is_bool : SemS :=
    (sRet (eIf (tOf (eVar 1)) (eOp isO (eVar 0) (eC (.bool true))) (eOp isO (eVar 0) (eC (.bool false)))))
noncomputable def f__law_is_bool : Fn := mkFn 2 b__law_is_bool
/-- all_within(part, whole); slots: 0 part, 1 whole, 2 owner -/
noncomputable def b_all_within : SemS :=
    (sRet (eApp allO (aCons (eComp [2] (iSeq (eVar 0)) (gN 2) tYesS (eOp inO (eVar 2) (eVar 1))) aNil)))
noncomputable def f_all_within : Fn := mkFn 3 b_all_within
/-- has_lot(charter, owners); slots: 0 charter, 1 owners, 2 lot -/
noncomputable def b_has_lot : SemS :=
    (sRet (eApp anyO (aCons (eComp [2] (iSeq (eOp ixO (eVar 0) (eC (.int 2)))) (gN 2) tYesS (eCall 2 f_all_within (aCons (eVar 2) (aCons (eVar 1) aNil)))) aNil)))
noncomputable def f_has_lot : Fn := mkFn 3 b_has_lot
/-- can_pay(charter, owners); slots: 0 charter, 1 owners, 2 owner -/
noncomputable def b_can_pay : SemS :=
    (sRet (eAnd (eCall 2 f_has_lot (aCons (eVar 0) (aCons (eVar 1) aNil))) (eApp anyO (aCons (eComp [2] (iSeq (eOp ixO (eVar 0) (eC (.int 1)))) (gN 2) tYesS (eOp inO (eVar 2) (eVar 1))) aNil))))
noncomputable def f_can_pay : Fn := mkFn 3 b_can_pay
/-- Trust.content(self, name); slots: 0 self, 1 name -/
noncomputable def b_Trust_content : SemS :=
    (sSeq (sIf (tNotS (tOf (eMeth "Trust" "is_name" 2 f_Trust_is_name (eVar 0) (aCons (eVar 1) aNil)))) (sRaise "BadName") sNil)
    (sRet (eOp ixO (eFld "Trust" "contents" (eVar 0)) (eOp ixO (eVar 1) (eC (.int 1))))))
noncomputable def f_Trust_content : Fn := mkFn 2 b_Trust_content
/-- Trust.sealed(self, who, name); slots: 0 self, 1 who, 2 name -/
noncomputable def b_Trust_sealed : SemS :=
    (sSeq (sIf (tNotS (tOf (eCall 1 f_is_who (aCons (eVar 1) aNil)))) (sRaise "BadWho") sNil)
    (sSeq (sIf (tNotS (tOf (eMeth "Trust" "is_name" 2 f_Trust_is_name (eVar 0) (aCons (eVar 2) aNil)))) (sRaise "BadName") sNil)
    (sRet (eOp inO (eTup (aCons (eVar 1) (aCons (eVar 2) aNil))) (eFld "Trust" "seals" (eVar 0))))))
noncomputable def f_Trust_sealed : Fn := mkFn 3 b_Trust_sealed
/-- is_bank(value); slots: 0 value, 1 begin, 2 members, 3 lies, 4 amount -/
noncomputable def b_is_bank : SemS :=
    (sSeq (sIf (tOrS (tNotS (tOf (eUn (isiO (isiB CLS "tuple")) (eVar 0)))) (tOf (eOp neO (eApp lenO (aCons (eVar 0) aNil)) (eC (.int 3))))) (sRet (eC (.bool false))) sNil)
    (sSeq (sAsg (gT 3 (gsCons (gN 1) (gsCons (gN 2) (gsCons (gN 3) gsNil)))) (eVar 0))
    (sSeq (sIf (tOrS (tNotS (tOf (eUn (isiO (isiB CLS "tuple")) (eVar 1)))) (tNotS (tOf (eChain leO leO (eC (.int 1)) (eApp lenO (aCons (eVar 1) aNil)) (eC (.int 8)))))) (sRet (eC (.bool false))) sNil)
    (sSeq (sIf (tOrS (tNotS (tOf (eApp allO (aCons (eComp [4] (iSeq (eVar 1)) (gN 4) tYesS (eCall 2 f_is_number (aCons (eVar 4) (aCons (eC (.int 0)) aNil)))) aNil)))) (tOf (eOp geO (eApp sumO (aCons (eVar 1) aNil)) (eC (.int 1000000000000000000))))) (sRet (eC (.bool false))) sNil)
    (sRet (eAnd (eCall 2 f_is_number (aCons (eVar 2) (aCons (eC (.int 1)) aNil))) (eAnd (eCall 2 f_is_number (aCons (eVar 3) (aCons (eC (.int 0)) aNil))) (eChain leO leO (eOp addO (eOp mulO (eC (.int 3)) (eVar 3)) (eC (.int 1))) (eVar 2) (eC (.int 13))))))))))
noncomputable def f_is_bank : Fn := mkFn 5 b_is_bank
/-- need_bank(bank); slots: 0 bank -/
noncomputable def b_need_bank : SemS :=
    (sIf (tNotS (tOf (eCall 1 f_is_bank (aCons (eVar 0) aNil)))) (sRaise "BadBank") sNil)
noncomputable def f_need_bank : Fn := mkFn 1 b_need_bank
/-- are_owners(value, many); slots: 0 value, 1 many, 2 item, 3 one, 4 other -/
noncomputable def b_are_owners : SemS :=
    (sSeq (sIf (tOrS (tNotS (tOf (eUn (isiO (isiB CLS "tuple")) (eVar 0)))) (tNotS (tOf (eApp allO (aCons (eComp [2] (iSeq (eVar 0)) (gN 2) tYesS (eAnd (eCall 2 f_is_number (aCons (eVar 2) (aCons (eC (.int 0)) aNil))) (eOp ltO (eVar 2) (eVar 1)))) aNil))))) (sRet (eC (.bool false))) sNil)
    (sRet (eApp allO (aCons (eComp [3, 4] (iZip (eVar 0) (eSl (eVar 0) (oS (eC (.int 1))) oN)) (gT 2 (gsCons (gN 3) (gsCons (gN 4) gsNil))) tYesS (eOp ltO (eVar 3) (eVar 4))) aNil))))
noncomputable def f_are_owners : Fn := mkFn 5 b_are_owners
/-- is_charter(value); slots: 0 value, 1 many, 2 proposers, 3 lots, 4 lot, 5 one, 6 other -/
noncomputable def b_is_charter : SemS :=
    (sSeq (sIf (tOrS (tNotS (tOf (eUn (isiO (isiB CLS "tuple")) (eVar 0)))) (tOf (eOp neO (eApp lenO (aCons (eVar 0) aNil)) (eC (.int 3))))) (sRet (eC (.bool false))) sNil)
    (sSeq (sAsg (gT 3 (gsCons (gN 1) (gsCons (gN 2) (gsCons (gN 3) gsNil)))) (eVar 0))
    (sSeq (sIf (tOrS (tNotS (tOf (eCall 2 f_is_number (aCons (eVar 1) (aCons (eC (.int 1)) aNil))))) (tOrS (tOf (eOp gtO (eVar 1) (eC (.int 6)))) (tOrS (tNotS (tOf (eCall 2 f_are_owners (aCons (eVar 2) (aCons (eVar 1) aNil))))) (tOf (eOp eqO (eVar 2) (eTup aNil)))))) (sRet (eC (.bool false))) sNil)
    (sSeq (sIf (tOrS (tNotS (tOf (eUn (isiO (isiB CLS "tuple")) (eVar 3)))) (tOrS (tOf (eOp eqO (eVar 3) (eTup aNil))) (tNotS (tOf (eApp allO (aCons (eComp [4] (iSeq (eVar 3)) (gN 4) tYesS (eAnd (eCall 2 f_are_owners (aCons (eVar 4) (aCons (eVar 1) aNil))) (eOp neO (eVar 4) (eTup aNil)))) aNil)))))) (sRet (eC (.bool false))) sNil)
    (sSeq (sIf (tNotS (tOf (eApp allO (aCons (eComp [5, 6] (iZip (eVar 3) (eSl (eVar 3) (oS (eC (.int 1))) oN)) (gT 2 (gsCons (gN 5) (gsCons (gN 6) gsNil))) tYesS (eOp ltO (eVar 5) (eVar 6))) aNil)))) (sRet (eC (.bool false))) sNil)
    (sRet (eNot (eApp anyO (aCons (eComp2 [5, 6] [6] (iSeq (eVar 3)) (gN 5) tYesS (iSeq (eVar 3)) (gN 6) tYesS (eAnd (eOp neO (eVar 5) (eVar 6)) (eCall 2 f_all_within (aCons (eVar 5) (aCons (eVar 6) aNil))))) aNil)))))))))
noncomputable def f_is_charter : Fn := mkFn 7 b_is_charter
/-- need_charter(charter); slots: 0 charter -/
noncomputable def b_need_charter : SemS :=
    (sIf (tNotS (tOf (eCall 1 f_is_charter (aCons (eVar 0) aNil)))) (sRaise "BadCharter") sNil)
noncomputable def f_need_charter : Fn := mkFn 1 b_need_charter
/-- need_trust(trust); slots: 0 trust -/
noncomputable def b_need_trust : SemS :=
    (sIf (tNotS (tOf (eUn (isiO (isiC CLS "Trust")) (eVar 0)))) (sRaise "BadTrust") sNil)
noncomputable def f_need_trust : Fn := mkFn 1 b_need_trust
/-- outer_form(trust, bank, name); slots: 0 trust, 1 bank, 2 name, 3 content, 4 purse, 5 number, 6 to, 7 amount, 8 causes, 9 many, 10 cause -/
noncomputable def b_outer_form : SemS :=
    (sSeq (sIf (tNotS (tOf (eMeth "Trust" "is_name" 2 f_Trust_is_name (eVar 0) (aCons (eVar 2) aNil)))) (sRet (eC (.bool false))) sNil)
    (sSeq (sSet 3 (eMeth "Trust" "content" 2 f_Trust_content (eVar 0) (aCons (eVar 2) aNil)))
    (sSeq (sIf (tOrS (tNotS (tOf (eUn (isiO (isiB CLS "tuple")) (eVar 3)))) (tOrS (tOf (eOp neO (eApp lenO (aCons (eVar 3) aNil)) (eC (.int 6)))) (tOrS (tNotS (tOf (eUn (isiO (isiB CLS "str")) (eOp ixO (eVar 3) (eC (.int 0)))))) (tOf (eOp neO (eOp ixO (eVar 3) (eC (.int 0))) (eC (.str "pay"))))))) (sRet (eC (.bool false))) sNil)
    (sSeq (sAsg (gT 5 (gsCons (gN 4) (gsCons (gN 5) (gsCons (gN 6) (gsCons (gN 7) (gsCons (gN 8) gsNil)))))) (eSl (eVar 3) (oS (eC (.int 1))) oN))
    (sSeq (sSet 9 (eApp lenO (aCons (eOp ixO (eVar 1) (eC (.int 0))) aNil)))
    (sSeq (sIf (tOrS (tNotS (tOf (eCall 2 f_is_number (aCons (eVar 4) (aCons (eC (.int 0)) aNil))))) (tOrS (tNotS (tOf (eCall 2 f_is_number (aCons (eVar 6) (aCons (eC (.int 0)) aNil))))) (tOrS (tOf (eOp geO (eVar 4) (eVar 9))) (tOf (eOp geO (eVar 6) (eVar 9)))))) (sRet (eC (.bool false))) sNil)
    (sSeq (sIf (tOrS (tNotS (tOf (eCall 2 f_is_number (aCons (eVar 5) (aCons (eC (.int 1)) aNil))))) (tOrS (tNotS (tOf (eCall 2 f_is_number (aCons (eVar 7) (aCons (eC (.int 1)) aNil))))) (tOrS (tNotS (tOf (eUn (isiO (isiB CLS "tuple")) (eVar 8)))) (tOf (eOp neO (eApp lenO (aCons (eVar 8) aNil)) (eVar 9)))))) (sRet (eC (.bool false))) sNil)
    (sRet (eApp allO (aCons (eComp [10] (iSeq (eVar 8)) (gN 10) tYesS (eOr (eOp isO (eVar 10) (eC .none)) (eMeth "Trust" "is_name" 2 f_Trust_is_name (eVar 0) (aCons (eVar 10) aNil)))) aNil))))))))))
noncomputable def f_outer_form : Fn := mkFn 11 b_outer_form
/-- need_purse(bank, purse); slots: 0 bank, 1 purse -/
noncomputable def b_need_purse : SemS :=
    (sIf (tOrS (tNotS (tOf (eCall 2 f_is_number (aCons (eVar 1) (aCons (eC (.int 0)) aNil))))) (tOf (eOp geO (eVar 1) (eApp lenO (aCons (eOp ixO (eVar 0) (eC (.int 0))) aNil))))) (sRaise "BadPurse") sNil)
noncomputable def f_need_purse : Fn := mkFn 2 b_need_purse
/-- owner_of(bank, purse, owner); slots: 0 bank, 1 purse, 2 owner -/
noncomputable def b_owner_of : SemS :=
    (sSeq (sExpr (eCall 1 f_need_bank (aCons (eVar 0) aNil)))
    (sSeq (sExpr (eCall 2 f_need_purse (aCons (eVar 0) (aCons (eVar 1) aNil))))
    (sSeq (sIf (tOrS (tNotS (tOf (eCall 2 f_is_number (aCons (eVar 2) (aCons (eC (.int 0)) aNil))))) (tOf (eOp geO (eVar 2) (eC (.int 6))))) (sRaise "BadOwner") sNil)
    (sRet (eTup (aCons (eC (.str "owner")) (aCons (eOp addO (eVar 1) (eOp mulO (eVar 2) (eApp lenO (aCons (eOp ixO (eVar 0) (eC (.int 0))) aNil)))) aNil)))))))
noncomputable def f_owner_of : Fn := mkFn 3 b_owner_of
/-- signed_by(trust, bank, charter, payment); slots: 0 trust, 1 bank, 2 charter, 3 payment, 4 purse, 5 found, 6 owner -/
noncomputable def b_signed_by : SemS :=
    (sSeq (sExpr (eCall 1 f_need_trust (aCons (eVar 0) aNil)))
    (sSeq (sExpr (eCall 1 f_need_bank (aCons (eVar 1) aNil)))
    (sSeq (sExpr (eCall 1 f_need_charter (aCons (eVar 2) aNil)))
    (sSeq (sIf (tNotS (tOf (eCall 3 f_outer_form (aCons (eVar 0) (aCons (eVar 1) (aCons (eVar 3) aNil)))))) (sRaise "BadPayment") sNil)
    (sSeq (sSet 4 (eOp ixO (eMeth "Trust" "content" 2 f_Trust_content (eVar 0) (aCons (eVar 3) aNil)) (eC (.int 1))))
    (sSeq (sSetLc 5 [6] (iRange1 (eOp ixO (eVar 2) (eC (.int 0)))) (gN 6) (tOf (eMeth "Trust" "sealed" 3 f_Trust_sealed (eVar 0) (aCons (eCall 3 f_owner_of (aCons (eVar 1) (aCons (eVar 4) (aCons (eVar 6) aNil)))) (aCons (eVar 3) aNil)))) (eVar 6))
    (sRet (eApp tupleO (aCons (eVar 5) aNil)))))))))
noncomputable def f_signed_by : Fn := mkFn 7 b_signed_by
/-- is_signed(trust, bank, charter, payment); slots: 0 trust, 1 bank, 2 charter, 3 payment -/
noncomputable def b_is_signed : SemS :=
    (sRet (eCall 2 f_can_pay (aCons (eVar 2) (aCons (eCall 4 f_signed_by (aCons (eVar 0) (aCons (eVar 1) (aCons (eVar 2) (aCons (eVar 3) aNil))))) aNil))))
noncomputable def f_is_signed : Fn := mkFn 4 b_is_signed
/-- _law_payment_right(tape, trust, bank, charter, name, purse); slots: 0 tape, 1 trust, 2 bank, 3 charter, 4 name, 5 purse, 6 many, 7 proposers, 8 lots, 9 sealed, 10 lap, 11 due, 12 signed, 13 place, 14 owner, 15 lot -/
noncomputable def b__law_payment_right : SemS :=
    (sSeq (sAsg (gT 3 (gsCons (gN 6) (gsCons (gN 7) (gsCons (gN 8) gsNil)))) (eVar 3))
    (sSeq (sSet 9 (eLstH aNil))
    (sSeq (sFor (iRange1 (eC (.int 8))) (gN 10) (sSeq (sSet 11 (eApp tupleO (aCons (eApp sortedO (aCons (eComp [14] (iSeq (eVar 9)) (gN 14) (tOf (eOp ltO (eVar 14) (eVar 6))) (eVar 14)) aNil)) aNil)))
    (sSeq (sIf (tOrS (tOf (eOp neO (eCall 4 f_signed_by (aCons (eVar 1) (aCons (eVar 2) (aCons (eVar 3) (aCons (eVar 4) aNil))))) (eVar 11))) (tOf (eOp neO (eCallK 4 4 [3, 2, 1, 0] f_signed_by (aCons (eVar 4) (aCons (eVar 3) (aCons (eVar 2) (aCons (eVar 1) aNil))))) (eVar 11)))) (sRet (eC (.bool false))) sNil)
    (sSeq (sSet 12 (eAnd (eOp neO (eComp [14] (iSeq (eVar 11)) (gN 14) (tOf (eOp inO (eVar 14) (eVar 7))) (eVar 14)) (eLstD aNil)) (eOp neO (eComp [15] (iSeq (eVar 8)) (gN 15) (tOf (eOp eqO (eComp [14] (iSeq (eVar 15)) (gN 14) (tOf (eOp notInO (eVar 14) (eVar 11))) (eVar 14)) (eLstD aNil))) (eVar 15)) (eLstD aNil))))
    (sSeq (sIf (tNotS (tOf (eCall 2 f__law_is_bool (aCons (eCall 4 f_is_signed (aCons (eVar 1) (aCons (eVar 2) (aCons (eVar 3) (aCons (eVar 4) aNil))))) (aCons (eVar 12) aNil))))) (sRet (eC (.bool false))) sNil)
    (sSeq (sPar 13 14 (aCons (eCall 2 f__law_draw (aCons (eVar 0) (aCons (eApp lenO (aCons (eOp ixO (eVar 2) (eC (.int 0))) aNil)) aNil))) (aCons (eCall 2 f__law_draw (aCons (eVar 0) (aCons (eC (.int 6)) aNil))) aNil)))
    (sSeq (sExpr (eMeth "Trust" "seal" 3 f_Trust_seal (eVar 1) (aCons (eCall 3 f_owner_of (aCons (eVar 2) (aCons (eVar 13) (aCons (eVar 14) aNil)))) (aCons (eVar 4) aNil))))
    (sSeq (sIf (tOf (eOp neO (eCall 3 f_owner_of (aCons (eVar 2) (aCons (eVar 13) (aCons (eVar 14) aNil)))) (eTup (aCons (eC (.str "owner")) (aCons (eOp addO (eVar 13) (eOp mulO (eVar 14) (eApp lenO (aCons (eOp ixO (eVar 2) (eC (.int 0))) aNil)))) aNil))))) (sRet (eC (.bool false))) sNil)
    (sIf (tAndS (tOf (eOp eqO (eVar 13) (eVar 5))) (tOf (eOp notInO (eVar 14) (eVar 9)))) (sExpr (eMt appendM (eVar 9) (aCons (eVar 14) aNil))) sNil)))))))))
    (sRet (eC (.bool true))))))
noncomputable def f__law_payment_right : Fn := mkFn 16 b__law_payment_right
/-- law(script); slots: 0 script, 1 tape, 2 lap, 3 bank, 4 trust, 5 charter, 6 purse, 7 name, 8 works, 9 bad, 10 value, 11 work -/
noncomputable def lams_law : List SemE := [(eCall 4 f_signed_by (aCons (eC .none) (aCons (eC .none) (aCons (eC .none) (aCons (eC .none) aNil))))), (eCall 4 f_is_signed (aCons (eC (.int 5)) (aCons (eC .none) (aCons (eC .none) (aCons (eC .none) aNil))))), (eCall 3 f_owner_of (aCons (eC .none) (aCons (eC .none) (aCons (eC .none) aNil)))), (eCall 4 f_signed_by (aCons (eVar 4) (aCons (eVar 3) (aCons (eVar 9) (aCons (eC .none) aNil))))), (eCall 4 f_is_signed (aCons (eVar 4) (aCons (eVar 3) (aCons (eVar 5) (aCons (eVar 9) aNil))))), (eCall 3 f_owner_of (aCons (eVar 3) (aCons (eC (.int 0)) (aCons (eVar 9) aNil)))), (eCall 3 f_owner_of (aCons (eVar 3) (aCons (eVar 9) (aCons (eC .none) aNil))))]
noncomputable def b_law : SemS :=
    (sSeq (sSet 1 (eCall 1 f__law_begun (aCons (eVar 0) aNil)))
    (sSeq (sFor (iRange1 (eOp addO (eC (.int 6)) (eApp minO (aCons (eApp lenO (aCons (eVar 0) aNil)) (aCons (eC (.int 12)) aNil))))) (gN 2) (sSeq (sParG 3 (gsCons (gN 3) (gsCons (gN 4) (gsCons (gN 5) gsNil))) (aCons (eCall 2 f__law_bank (aCons (eVar 1) (aCons (eC (.int 3)) aNil))) (aCons (eMake "Trust" 1 f_Trust___init__ aNil) (aCons (eCall 1 f__law_charter (aCons (eVar 1) aNil)) aNil))))
    (sSeq (sIf (tOrS (tOf (eOp isNotO (eCall 1 f_is_charter (aCons (eVar 5) aNil)) (eC (.bool true)))) (tOf (eOp neO (eComp [10] (iSeq (eCall 1 f__law_near (aCons (eVar 5) aNil))) (gN 10) (tOf (eOp isNotO (eCall 1 f_is_charter (aCons (eVar 10) aNil)) (eC (.bool false)))) (eVar 10)) (eLstD aNil)))) (sRet (eC (.bool false))) sNil)
    (sSeq (sSet 6 (eCall 2 f__law_draw (aCons (eVar 1) (aCons (eApp lenO (aCons (eOp ixO (eVar 3) (eC (.int 0))) aNil)) aNil))))
    (sSeq (sSet 7 (eMeth "Trust" "name" 2 f_Trust_name (eVar 4) (aCons (eTup (aCons (eC (.str "pay")) (aCons (eVar 6) (aCons (eC (.int 1)) (aCons (eC (.int 0)) (aCons (eC (.int 3)) (aCons (eOp mulO (eTup (aCons (eC .none) aNil)) (eApp lenO (aCons (eOp ixO (eVar 3) (eC (.int 0))) aNil))) aNil))))))) aNil)))
    (sSeq (sIf (tNotS (tOf (eCall 6 f__law_payment_right (aCons (eVar 1) (aCons (eVar 4) (aCons (eVar 3) (aCons (eVar 5) (aCons (eVar 7) (aCons (eVar 6) aNil))))))))) (sRet (eC (.bool false))) sNil)
    (sSeq (sSet 8 (eClos (aCons (eLam 0) (aCons (eLam 1) aNil))))
    (sSeq (sIf (tOrS (tOf (eOp neO (eCompC [11] (iSeq (eVar 8)) (gN 11) (fun ρ0 => (tNotS (tOf (eUn (isiO (isiC CLS "BadTrust")) (eCaughtB ERRS lams_law ρ0 (eVar 11)))))) (fun ρ0 => (eVar 11))) (eLstD aNil))) (tNotS (tOf (eUn (isiO (isiC CLS "BadBank")) (eCaught ERRS lams_law (eLam 2)))))) (sRet (eC (.bool false))) sNil)
    (sSeq (sFor (iSeq (eCall 1 f__law_near (aCons (eVar 5) aNil))) (gN 9) (sIf (tNotS (tOf (eUn (isiO (isiC CLS "BadCharter")) (eCaught ERRS lams_law (eLam 3))))) (sRet (eC (.bool false))) sNil))
    (sSeq (sFor (iSeq (eLstD (aCons (eC .none) (aCons (eMeth "Trust" "name" 2 f_Trust_name (eVar 4) (aCons (eC (.str "word")) aNil)) (aCons (eTup (aCons (eC (.str "name")) (aCons (eOp powO (eC (.int 10)) (eC (.int 6))) aNil))) (aCons (eC (.int 5)) aNil)))))) (gN 9) (sIf (tNotS (tOf (eUn (isiO (isiC CLS "BadPayment")) (eCaught ERRS lams_law (eLam 4))))) (sRet (eC (.bool false))) sNil))
    (sSeq (sFor (iSeq (eLstD (aCons (eC .none) (aCons (eUn negO (eC (.int 1))) (aCons (eC (.int 6)) (aCons (eC (.bool true)) aNil)))))) (gN 9) (sIf (tNotS (tOf (eUn (isiO (isiC CLS "BadOwner")) (eCaught ERRS lams_law (eLam 5))))) (sRet (eC (.bool false))) sNil))
    (sFor (iSeq (eLstD (aCons (eC .none) (aCons (eUn negO (eC (.int 1))) (aCons (eApp lenO (aCons (eOp ixO (eVar 3) (eC (.int 0))) aNil)) (aCons (eC (.bool true)) aNil)))))) (gN 9) (sIf (tNotS (tOf (eUn (isiO (isiC CLS "BadPurse")) (eCaught ERRS lams_law (eLam 6))))) (sRet (eC (.bool false))) sNil)))))))))))))
    (sRet (eAnd (eOp eqO (eCall 3 f_owner_of (aCons (eTup (aCons (eTup (aCons (eC (.int 1)) (aCons (eC (.int 1)) aNil))) (aCons (eC (.int 1)) (aCons (eC (.int 0)) aNil)))) (aCons (eC (.int 1)) (aCons (eC (.int 5)) aNil)))) (eTup (aCons (eC (.str "owner")) (aCons (eC (.int 11)) aNil)))) (eNot (eUn (isiO (isiC CLS "PurseError")) (eVar 1)))))))
noncomputable def f_law : Fn := mkFnL 12 b_law
end Q

set_option Elab.async false
set_option maxRecDepth 100000
set_option linter.all false
set_option autoImplicit false
set_option maxHeartbeats 4000000
/-! printed by gen.py -/
namespace Q
open PySem PySem.Spec PyProof.Rows L2 LamX
/-! ### the text -/
def top (i : Nat) : Stmt := PySem.Challenge.pw_pursespassed_k19_whole_seals_of_several.main.body.getD i (.Pass ⟨0, 0, 0, 0⟩)
def sub (st : Stmt) (j : Nat) : Stmt := match st with
  | .ClassDef _ _ _ body _ _ _ _ _ _ _ => body.getD j (.Pass ⟨0, 0, 0, 0⟩)
  | _ => .Pass ⟨0, 0, 0, 0⟩
abbrev s_Trust___init__ : Stmt := (sub (top 24) 0)
abbrev s_is_number : Stmt := (top 15)
abbrev s_has_name_form : Stmt := (top 19)
abbrev s_Trust_is_name : Stmt := (sub (top 24) 1)
abbrev s_is_plain : Stmt := (top 22)
abbrev s_parts_within : Stmt := (top 21)
abbrev s_Trust_name : Stmt := (sub (top 24) 2)
abbrev s__law_blend : Stmt := (top 41)
abbrev s__law_draw : Stmt := (top 42)
abbrev s__law_pick : Stmt := (top 43)
abbrev s__law_bank : Stmt := (top 47)
abbrev s__law_begun : Stmt := (top 40)
abbrev s__law_shuffled : Stmt := (top 44)
abbrev s__law_charter : Stmt := (top 48)
abbrev s__law_near : Stmt := (top 49)
abbrev s_is_who : Stmt := (top 23)
abbrev s_Trust_seal : Stmt := (sub (top 24) 4)
abbrev s__law_is_bool : Stmt := (top 45)
abbrev s_all_within : Stmt := (top 31)
abbrev s_has_lot : Stmt := (top 34)
abbrev s_can_pay : Stmt := (top 35)
abbrev s_Trust_content : Stmt := (sub (top 24) 3)
abbrev s_Trust_sealed : Stmt := (sub (top 24) 5)
abbrev s_is_bank : Stmt := (top 16)
abbrev s_need_bank : Stmt := (top 17)
abbrev s_are_owners : Stmt := (top 30)
abbrev s_is_charter : Stmt := (top 32)
abbrev s_need_charter : Stmt := (top 33)
abbrev s_need_trust : Stmt := (top 25)
abbrev s_outer_form : Stmt := (top 27)
abbrev s_need_purse : Stmt := (top 18)
abbrev s_owner_of : Stmt := (top 36)
abbrev s_signed_by : Stmt := (top 37)
abbrev s_is_signed : Stmt := (top 38)
abbrev s__law_payment_right : Stmt := (top 50)
abbrev s_law : Stmt := (top 51)
abbrev lawLevel : Nat := 10
def intL : List (Str × Int) := [("MOST_NUMBER", 1000000000000000000)]
abbrev s__law_caught : Stmt := (top 46)
def factsL : List He.Fa := [.noat "Trust" "seals", .noat "Trust" "names", .noat "Trust" "contents", .meth "Trust" "__init__", .mkr "Trust", .free "isinstance", .free "bool", .free "int", .glo "is_number", .free "str", .free "len", .free "tuple", .glo "has_name_form", .meth "Trust" "is_name", .free "abs", .glo "is_plain", .glo "parts_within", .free "all", .exc "BadContent", .meth "Trust" "name", .glo "_law_blend", .glo "_law_draw", .glo "_law_pick", .free "range", .glo "_law_bank", .glo "_law_begun", .free "list", .glo "_law_shuffled", .free "sorted", .glo "_law_charter", .glo "_law_near", .glo "is_who", .exc "BadName", .exc "BadWho", .meth "Trust" "seal", .glo "_law_is_bool", .glo "all_within", .free "any", .glo "has_lot", .glo "can_pay", .meth "Trust" "content", .meth "Trust" "sealed", .int "MOST_MEMBERS" 13, .free "sum", .int "MOST_PURSES" 8, .glo "is_bank", .exc "BadBank", .glo "need_bank", .free "zip", .glo "are_owners", .int "MOST_OWNERS" 6, .glo "is_charter", .exc "BadCharter", .glo "need_charter", .exc "BadTrust", .glo "need_trust", .glo "outer_form", .exc "BadPurse", .glo "need_purse", .exc "BadOwner", .glo "owner_of", .exc "BadPayment", .glo "signed_by", .glo "is_signed", .glo "_law_payment_right", .free "min", .glo "law", .glo "_law_caught", .glo "PurseError", .exm "PurseError" "PurseError" true, .exm "BadBank" "PurseError" true, .exm "BadCharter" "PurseError" true, .exm "BadContent" "PurseError" true, .exm "BadName" "PurseError" true, .exm "BadOwner" "PurseError" true, .exm "BadPayment" "PurseError" true, .exm "BadPurse" "PurseError" true, .exm "BadTrust" "PurseError" true, .exm "BadWho" "PurseError" true]
def defsL : List He.FnD := [dOf ("Trust", some "__init__") "__init__" "Trust.__init__" s_Trust___init__,
  dOf ("is_number", none) "is_number" "is_number" s_is_number,
  dOf ("has_name_form", none) "has_name_form" "has_name_form" s_has_name_form,
  dOf ("Trust", some "is_name") "is_name" "Trust.is_name" s_Trust_is_name,
  dOf ("is_plain", none) "is_plain" "is_plain" s_is_plain,
  dOf ("parts_within", none) "parts_within" "parts_within" s_parts_within,
  dOf ("Trust", some "name") "name" "Trust.name" s_Trust_name,
  dOf ("_law_blend", none) "_law_blend" "_law_blend" s__law_blend,
  dOf ("_law_draw", none) "_law_draw" "_law_draw" s__law_draw,
  dOf ("_law_pick", none) "_law_pick" "_law_pick" s__law_pick,
  dOf ("_law_bank", none) "_law_bank" "_law_bank" s__law_bank,
  dOf ("_law_begun", none) "_law_begun" "_law_begun" s__law_begun,
  dOf ("_law_shuffled", none) "_law_shuffled" "_law_shuffled" s__law_shuffled,
  dOf ("_law_charter", none) "_law_charter" "_law_charter" s__law_charter,
  dOf ("_law_near", none) "_law_near" "_law_near" s__law_near,
  dOf ("is_who", none) "is_who" "is_who" s_is_who,
  dOf ("Trust", some "seal") "seal" "Trust.seal" s_Trust_seal,
  dOf ("_law_is_bool", none) "_law_is_bool" "_law_is_bool" s__law_is_bool,
  dOf ("all_within", none) "all_within" "all_within" s_all_within,
  dOf ("has_lot", none) "has_lot" "has_lot" s_has_lot,
  dOf ("can_pay", none) "can_pay" "can_pay" s_can_pay,
  dOf ("Trust", some "content") "content" "Trust.content" s_Trust_content,
  dOf ("Trust", some "sealed") "sealed" "Trust.sealed" s_Trust_sealed,
  dOf ("is_bank", none) "is_bank" "is_bank" s_is_bank,
  dOf ("need_bank", none) "need_bank" "need_bank" s_need_bank,
  dOf ("are_owners", none) "are_owners" "are_owners" s_are_owners,
  dOf ("is_charter", none) "is_charter" "is_charter" s_is_charter,
  dOf ("need_charter", none) "need_charter" "need_charter" s_need_charter,
  dOf ("need_trust", none) "need_trust" "need_trust" s_need_trust,
  dOf ("outer_form", none) "outer_form" "outer_form" s_outer_form,
  dOf ("need_purse", none) "need_purse" "need_purse" s_need_purse,
  dOf ("owner_of", none) "owner_of" "owner_of" s_owner_of,
  dOf ("signed_by", none) "signed_by" "signed_by" s_signed_by,
  dOf ("is_signed", none) "is_signed" "is_signed" s_is_signed,
  dOf ("_law_payment_right", none) "_law_payment_right" "_law_payment_right" s__law_payment_right,
  dOf ("law", none) "law" "law" s_law,
  dOf ("_law_caught", none) "_law_caught" "_law_caught" s__law_caught]
def txt : TxtD := ⟨factsL, defsL, CLS, [(("law", none), "law" ++ ".<locals>." ++ "<lambda>")]⟩
abbrev gd (w : World) (K : PySem.W.Frag) (mg : Str → Option Value) : Gd := ⟨w, K, mg, txt.tabs K, Clo.no⟩
theorem sc__law_caught : FnScope ["work", "found", "error"] ["work"] (defScope s__law_caught) := ⟨rfl, rfl, rfl, by decide +kernel, rfl, by decide +kernel, by decide +kernel⟩
theorem cD {K : PySem.W.Frag} {mg : Str → Option Value} {h : Heap} {X : Cx} (T : Txt txt K mg h) (hK : X.K = K) (hm : X.mg = mg) : CaughtDef X (Str.ofString "_law_caught") (He.ga K "_law_caught") ERRS mg :=
  caughtD (i := 36) (j := 67) (p := 68) (st := s__law_caught) T hK hm rfl rfl rfl sc__law_caught rfl rfl rfl rfl rfl (fun fd F => F.binds (ps := ["work"]) fun _ _ _ _ _ _ us hl => match us, hl with | [_], _ => rfl) fun c hc => by
    simp only [ERRS, List.mem_cons, List.not_mem_nil, or_false] at hc
    rcases hc with rfl | rfl | rfl | rfl | rfl | rfl | rfl | rfl | rfl | rfl
    · exact ⟨69, rfl, T.cls.gm "PurseError" (by decide +kernel)⟩
    · exact ⟨70, rfl, T.cls.gm "BadBank" (by decide +kernel)⟩
    · exact ⟨71, rfl, T.cls.gm "BadCharter" (by decide +kernel)⟩
    · exact ⟨72, rfl, T.cls.gm "BadContent" (by decide +kernel)⟩
    · exact ⟨73, rfl, T.cls.gm "BadName" (by decide +kernel)⟩
    · exact ⟨74, rfl, T.cls.gm "BadOwner" (by decide +kernel)⟩
    · exact ⟨75, rfl, T.cls.gm "BadPayment" (by decide +kernel)⟩
    · exact ⟨76, rfl, T.cls.gm "BadPurse" (by decide +kernel)⟩
    · exact ⟨77, rfl, T.cls.gm "BadTrust" (by decide +kernel)⟩
    · exact ⟨78, rfl, T.cls.gm "BadWho" (by decide +kernel)⟩
section
variable {P : Program} {w : World} {K : PySem.W.Frag} {mg : Str → Option Value} {h : Heap} {base : Heap}
theorem sc_Trust___init__ : FnScope ["self"] ["self"] (defScope s_Trust___init__) := ⟨rfl, rfl, rfl, by decide +kernel, rfl, by decide +kernel, by decide +kernel⟩
theorem j_Trust___init__ (T : Txt txt K mg h) (TB : ∀ p ∈ txt.cs K, TabB base mg p.1 p.2) (L : Ints mg intL) (f : Addr) (cdv : Value) (A : Around) (outer : List Env) (s : Shared) (H : Hp) (E : XK) (hr : Room 0 (A.deeper (envOfC "Trust.__init__" (defScope s_Trust___init__) s.heap.objs.size f cdv))) :
    JSs (gd w K mg) (cxOf (L2.CX P w) P w K mg base ["self"] "Trust.__init__" (defScope s_Trust___init__) f cdv A outer s H E) b_Trust___init__ (defBody s_Trust___init__) :=
    (jss_cons (js_fld rfl (T.cls.gm "Trust" (by decide +kernel)) (T.cls.ins "Trust" (by decide +kernel)).cl (He.noat_ok (T.c.fact 2)) (je_var 0) (je_lstH ja_nil))
    (jss_cons (js_fld rfl (T.cls.gm "Trust" (by decide +kernel)) (T.cls.ins "Trust" (by decide +kernel)).cl (He.noat_ok (T.c.fact 1)) (je_var 0) je_dctH)
    (jss_one (js_fld rfl (T.cls.gm "Trust" (by decide +kernel)) (T.cls.ins "Trust" (by decide +kernel)).cl (He.noat_ok (T.c.fact 0)) (je_var 0) je_dctH))))
theorem o_Trust___init__ (T : Txt txt K mg h) (TB : ∀ p ∈ txt.cs K, TabB base mg p.1 p.2) (L : Ints mg intL) : MtP (gd w K mg) P base 1 (gaS K "Trust") "__init__" 1 f_Trust___init__ ∧ MkP (gd w K mg) P base 1 (gaS K "Trust") 1 f_Trust___init__ := by
  obtain ⟨fd, F⟩ := T.fun_ 0 (at_ := ("Trust", some "__init__")) (st := s_Trust___init__)
  have ok := fn_ok (P := P) (G := gd w K mg) (k := 0) F sc_Trust___init__ rfl rfl (by decide) fun cdv A outer s H E hr => j_Trust___init__ T TB L _ cdv A outer s H E hr
  exact ⟨⟨_, fd, ["self"], He.meth_ok (T.c.fact 3), F.binds (ps := ["self"]) fun _ _ _ _ _ _ us hl => match us, hl with | [_], _ => rfl, ok⟩, ⟨_, fd, ["self"], He.mkr_ok (T.c.fact 4), F.binds (ps := ["self"]) fun _ _ _ _ _ _ us hl => match us, hl with | [_], _ => rfl, ok⟩⟩
theorem sc_is_number : FnScope ["value", "low"] ["value", "low"] (defScope s_is_number) := ⟨rfl, rfl, rfl, by decide +kernel, rfl, by decide +kernel, by decide +kernel⟩
theorem j_is_number (T : Txt txt K mg h) (TB : ∀ p ∈ txt.cs K, TabB base mg p.1 p.2) (L : Ints mg intL) (f : Addr) (cdv : Value) (A : Around) (outer : List Env) (s : Shared) (H : Hp) (E : XK) (hr : Room 0 (A.deeper (envOfC "is_number" (defScope s_is_number) s.heap.objs.size f cdv))) :
    JSs (gd w K mg) (cxOf (L2.CX P w) P w K mg base ["value", "low"] "is_number" (defScope s_is_number) f cdv A outer s H E) b_is_number (defBody s_is_number) :=
    (jss_one (js_ret (je_and (je_isiB rfl (isiB_ok rfl T.cls (by decide)) rfl (T.free 5) rfl (T.free 7) boot_int (je_var 0)) (je_and (je_not (je_isiB rfl (isiB_ok rfl T.cls (by decide)) rfl (T.free 5) rfl (T.free 6) boot_bool (je_var 0))) (je_one (je_chain (os_le rfl (hu70 hr)) (os_lt rfl (hu70 hr)) (je_var 1) (je_var 0) (je_globI' rfl (L ("MOST_NUMBER", 1000000000000000000) (by simp [intL])))))))))
theorem o_is_number (T : Txt txt K mg h) (TB : ∀ p ∈ txt.cs K, TabB base mg p.1 p.2) (L : Ints mg intL) : FnP (gd w K mg) P base 1 "is_number" 2 f_is_number := by
  obtain ⟨fd, F⟩ := T.fun_ 1 (at_ := ("is_number", none)) (st := s_is_number)
  exact ⟨_, fd, ["value", "low"], (T.glo 8), F.kp, F.binds (ps := ["value", "low"]) fun _ _ _ _ _ _ us hl => match us, hl with | [_, _], _ => rfl, fn_ok (P := P) (G := gd w K mg) (k := 0) F sc_is_number rfl rfl (by decide) fun cdv A outer s H E hr => j_is_number T TB L _ cdv A outer s H E hr⟩
theorem sc_has_name_form : FnScope ["value"] ["value"] (defScope s_has_name_form) := ⟨rfl, rfl, rfl, by decide +kernel, rfl, by decide +kernel, by decide +kernel⟩
theorem j_has_name_form (T : Txt txt K mg h) (TB : ∀ p ∈ txt.cs K, TabB base mg p.1 p.2) (L : Ints mg intL) (f : Addr) (cdv : Value) (A : Around) (outer : List Env) (s : Shared) (H : Hp) (E : XK) (hr : Room 1 (A.deeper (envOfC "has_name_form" (defScope s_has_name_form) s.heap.objs.size f cdv))) :
    JSs (gd w K mg) (cxOf (L2.CX P w) P w K mg base ["value"] "has_name_form" (defScope s_has_name_form) f cdv A outer s H E) b_has_name_form (defBody s_has_name_form) :=
    (jss_one (js_ret (je_and (je_isiB rfl (isiB_ok rfl T.cls (by decide)) rfl (T.free 5) rfl (T.free 11) boot_tuple (je_var 0)) (je_and (je_cmp (os_eq rfl hr.units) (je_callB (cs_len rfl) rfl (T.free 10) boot_len (ja_cons (je_var 0) ja_nil)) je_int) (je_and (je_isiB rfl (isiB_ok rfl T.cls (by decide)) rfl (T.free 5) rfl (T.free 9) boot_str (je_sub rfl rfl (hu70 hr) (je_var 0) je_int)) (je_and (je_cmp (os_eq rfl hr.units) (je_sub rfl rfl (hu70 hr) (je_var 0) je_int) je_str) (je_one (je_call (FnP.at (o_is_number T TB L) ⟨rfl, rfl, rfl, rfl, rfl⟩ rfl) (hr.mono (by first | decide | omega)) rfl (ja_cons (je_sub rfl rfl (hu70 hr) (je_var 0) je_int) (ja_cons je_int ja_nil))))))))))
theorem o_has_name_form (T : Txt txt K mg h) (TB : ∀ p ∈ txt.cs K, TabB base mg p.1 p.2) (L : Ints mg intL) : FnP (gd w K mg) P base 2 "has_name_form" 1 f_has_name_form := by
  obtain ⟨fd, F⟩ := T.fun_ 2 (at_ := ("has_name_form", none)) (st := s_has_name_form)
  exact ⟨_, fd, ["value"], (T.glo 12), F.kp, F.binds (ps := ["value"]) fun _ _ _ _ _ _ us hl => match us, hl with | [_], _ => rfl, fn_ok (P := P) (G := gd w K mg) (k := 1) F sc_has_name_form rfl rfl (by decide) fun cdv A outer s H E hr => j_has_name_form T TB L _ cdv A outer s H E hr⟩
theorem sc_Trust_is_name : FnScope ["self", "value"] ["self", "value"] (defScope s_Trust_is_name) := ⟨rfl, rfl, rfl, by decide +kernel, rfl, by decide +kernel, by decide +kernel⟩
theorem j_Trust_is_name (T : Txt txt K mg h) (TB : ∀ p ∈ txt.cs K, TabB base mg p.1 p.2) (L : Ints mg intL) (f : Addr) (cdv : Value) (A : Around) (outer : List Env) (s : Shared) (H : Hp) (E : XK) (hr : Room 2 (A.deeper (envOfC "Trust.is_name" (defScope s_Trust_is_name) s.heap.objs.size f cdv))) :
    JSs (gd w K mg) (cxOf (L2.CX P w) P w K mg base ["self", "value"] "Trust.is_name" (defScope s_Trust_is_name) f cdv A outer s H E) b_Trust_is_name (defBody s_Trust_is_name) :=
    (jss_one (js_ret (je_and (je_call (FnP.at (o_has_name_form T TB L) ⟨rfl, rfl, rfl, rfl, rfl⟩ rfl) (hr.mono (by first | decide | omega)) rfl (ja_cons (je_var 1) ja_nil)) (je_one (je_cmp (os_lt rfl (hu70 hr)) (je_sub rfl rfl (hu70 hr) (je_var 1) je_int) (je_callB (cs_len rfl) rfl (T.free 10) boot_len (ja_cons (je_fld rfl (T.cls.gm "Trust" (by decide +kernel)) (T.cls.ins "Trust" (by decide +kernel)).cl (He.noat_ok (T.c.fact 2)) (je_var 0)) ja_nil)))))))
theorem o_Trust_is_name (T : Txt txt K mg h) (TB : ∀ p ∈ txt.cs K, TabB base mg p.1 p.2) (L : Ints mg intL) : MtP (gd w K mg) P base 3 (gaS K "Trust") "is_name" 2 f_Trust_is_name := by
  obtain ⟨fd, F⟩ := T.fun_ 3 (at_ := ("Trust", some "is_name")) (st := s_Trust_is_name)
  exact ⟨_, fd, ["self", "value"], He.meth_ok (T.c.fact 13), F.binds (ps := ["self", "value"]) fun _ _ _ _ _ _ us hl => match us, hl with | [_, _], _ => rfl, fn_ok (P := P) (G := gd w K mg) (k := 2) F sc_Trust_is_name rfl rfl (by decide) fun cdv A outer s H E hr => j_Trust_is_name T TB L _ cdv A outer s H E hr⟩
theorem sc_is_plain : FnScope ["item"] ["item"] (defScope s_is_plain) := ⟨rfl, rfl, rfl, by decide +kernel, rfl, by decide +kernel, by decide +kernel⟩
theorem j_is_plain (T : Txt txt K mg h) (TB : ∀ p ∈ txt.cs K, TabB base mg p.1 p.2) (L : Ints mg intL) (f : Addr) (cdv : Value) (A : Around) (outer : List Env) (s : Shared) (H : Hp) (E : XK) (hr : Room 0 (A.deeper (envOfC "is_plain" (defScope s_is_plain) s.heap.objs.size f cdv))) :
    JSs (gd w K mg) (cxOf (L2.CX P w) P w K mg base ["item"] "is_plain" (defScope s_is_plain) f cdv A outer s H E) b_is_plain (defBody s_is_plain) :=
    (jss_cons (js_if (jt_pw (jw_or (jt_cmp os_is (je_var 0) je_none) (jw_or1 (jt_val (je_isiB rfl (isiB_ok rfl T.cls (by decide)) rfl (T.free 5) rfl (T.free 9) boot_str (je_var 0)))))) (jss_one (js_ret je_bool)) jss_nil)
    (jss_one (js_ret (je_and (je_isiB rfl (isiB_ok rfl T.cls (by decide)) rfl (T.free 5) rfl (T.free 7) boot_int (je_var 0)) (je_and (je_not (je_isiB rfl (isiB_ok rfl T.cls (by decide)) rfl (T.free 5) rfl (T.free 6) boot_bool (je_var 0))) (je_one (je_cmp (os_lt rfl (hu70 hr)) (je_callB (cs_abs) rfl (T.free 14) boot_abs (ja_cons (je_var 0) ja_nil)) (je_globI' rfl (L ("MOST_NUMBER", 1000000000000000000) (by simp [intL]))))))))))
theorem o_is_plain (T : Txt txt K mg h) (TB : ∀ p ∈ txt.cs K, TabB base mg p.1 p.2) (L : Ints mg intL) : FnP (gd w K mg) P base 1 "is_plain" 1 f_is_plain := by
  obtain ⟨fd, F⟩ := T.fun_ 4 (at_ := ("is_plain", none)) (st := s_is_plain)
  exact ⟨_, fd, ["item"], (T.glo 15), F.kp, F.binds (ps := ["item"]) fun _ _ _ _ _ _ us hl => match us, hl with | [_], _ => rfl, fn_ok (P := P) (G := gd w K mg) (k := 0) F sc_is_plain rfl rfl (by decide) fun cdv A outer s H E hr => j_is_plain T TB L _ cdv A outer s H E hr⟩
theorem sc_parts_within : FnScope ["value", "found", "left", "item"] ["value"] (defScope s_parts_within) := ⟨rfl, rfl, rfl, by decide +kernel, rfl, by decide +kernel, by decide +kernel⟩
theorem j_parts_within (T : Txt txt K mg h) (TB : ∀ p ∈ txt.cs K, TabB base mg p.1 p.2) (L : Ints mg intL) (f : Addr) (cdv : Value) (A : Around) (outer : List Env) (s : Shared) (H : Hp) (E : XK) (hr : Room 2 (A.deeper (envOfC "parts_within" (defScope s_parts_within) s.heap.objs.size f cdv))) :
    JSs (gd w K mg) (cxOf (L2.CX P w) P w K mg base ["value", "found", "left", "item"] "parts_within" (defScope s_parts_within) f cdv A outer s H E) b_parts_within (defBody s_parts_within) :=
    (jss_cons (js_par (i := 1) (j := 2) rfl sc_parts_within.nd rfl rfl (by decide) rfl rfl (ja_cons (je_lstH ja_nil) (ja_cons (je_lstH (ja_cons (je_var 0) ja_nil)) ja_nil)) rfl)
    (jss_cons (js_while (passes_of rfl) (jt_cmp (os_ne rfl hr.units) (je_var 2) (je_lstD ja_nil)) (jss_cons (js_set (i := 3) sc_parts_within.nd rfl (by first | exact Or.inl rfl | exact Or.inr rfl) (je_mt0 PySem.F.slot_list_pop PySem.F.type_list_pop ms_pop (je_var 2)))
    (jss_one (js_if (jt_pw (jw_and (jt_val (je_isiB rfl (isiB_ok rfl T.cls (by decide)) rfl (T.free 5) rfl (T.free 11) boot_tuple (je_var 3))) (jw_and1 (jt_not (jt_val (je_call (FnP.at (o_has_name_form T TB L) ⟨rfl, rfl, rfl, rfl, rfl⟩ rfl) (hr.mono (by first | decide | omega)) rfl (ja_cons (je_var 3) ja_nil))))))) (jss_one (js_expr (je_mt PySem.F.slot_list_extend PySem.F.type_list_extend (ms_extend rfl) (je_var 2) (ja_cons (je_var 3) ja_nil)))) (jss_one (js_expr (je_mt PySem.F.slot_list_append PySem.F.type_list_append ms_append (je_var 1) (ja_cons (je_var 3) ja_nil))))))))
    (jss_one (js_ret (je_var 1)))))
theorem o_parts_within (T : Txt txt K mg h) (TB : ∀ p ∈ txt.cs K, TabB base mg p.1 p.2) (L : Ints mg intL) : FnP (gd w K mg) P base 3 "parts_within" 1 f_parts_within := by
  obtain ⟨fd, F⟩ := T.fun_ 5 (at_ := ("parts_within", none)) (st := s_parts_within)
  exact ⟨_, fd, ["value"], (T.glo 16), F.kp, F.binds (ps := ["value"]) fun _ _ _ _ _ _ us hl => match us, hl with | [_], _ => rfl, fn_ok (P := P) (G := gd w K mg) (k := 2) F sc_parts_within rfl rfl (by decide) fun cdv A outer s H E hr => j_parts_within T TB L _ cdv A outer s H E hr⟩
theorem sc_Trust_name : FnScope ["self", "content", "item"] ["self", "content"] (defScope s_Trust_name) := ⟨rfl, rfl, rfl, by decide +kernel, rfl, by decide +kernel, by decide +kernel⟩
theorem j_Trust_name (T : Txt txt K mg h) (TB : ∀ p ∈ txt.cs K, TabB base mg p.1 p.2) (L : Ints mg intL) (f : Addr) (cdv : Value) (A : Around) (outer : List Env) (s : Shared) (H : Hp) (E : XK) (hr : Room 3 (A.deeper (envOfC "Trust.name" (defScope s_Trust_name) s.heap.objs.size f cdv))) :
    JSs (gd w K mg) (cxOf (L2.CX P w) P w K mg base ["self", "content", "item"] "Trust.name" (defScope s_Trust_name) f cdv A outer s H E) b_Trust_name (defBody s_Trust_name) :=
    (jss_cons (js_if (jt_not (jt_val (je_callB (cs_all rfl rfl) rfl (T.free 17) boot_all (ja_cons (je_comp (own := [("item", 2)]) rfl sc_Trust_name.nd (ji_seq rfl (je_call (FnP.at (o_parts_within T TB L) ⟨rfl, rfl, rfl, rfl, rfl⟩ rfl) (hr.mono (by first | decide | omega)) rfl (ja_cons (je_var 1) ja_nil))) (blkOk_by (own := [("item", 2)]) (by rfl)) (by decide) (jgb_name sc_Trust_name.nd rfl (fun _ _ _ _ _ => (by first | exact Or.inl rfl | exact Or.inr rfl)) (fun _ _ _ _ _ => by first | exact Or.inr rfl | exact Or.inl rfl)) (fun _ _ _ _ _ => jts_nil) (fun _ _ _ _ _ => (je_or (je_meth rfl (T.cls.gm "Trust" (by decide +kernel)) (T.cls.ins "Trust" (by decide +kernel)).cl (MtP.at (o_Trust_is_name T TB L) ⟨rfl, rfl, rfl, rfl, rfl⟩ rfl) (hr.mono (by first | decide | omega)) (je_var 0) (ja_cons (je_var 2) ja_nil)) (je_one (je_call (FnP.at (o_is_plain T TB L) ⟨rfl, rfl, rfl, rfl, rfl⟩ rfl) (hr.mono (by first | decide | omega)) rfl (ja_cons (je_var 2) ja_nil)))))) ja_nil)))) (jss_one (js_raise' (c := "BadContent") rfl (He.exc_ok (T.c.fact 18)) (T.cls.gm "BadContent" (by decide +kernel)) rfl rfl)) jss_nil)
    (jss_cons (js_if (jt_cmp (os_notIn rfl rfl (hu70 hr)) (je_var 1) (je_fld rfl (T.cls.gm "Trust" (by decide +kernel)) (T.cls.ins "Trust" (by decide +kernel)).cl (He.noat_ok (T.c.fact 1)) (je_var 0)) (by first | exact nomark _ | rfl | with_unfolding_all rfl)) (jss_cons (js_put rfl rfl (hu70 hr) (je_fld rfl (T.cls.gm "Trust" (by decide +kernel)) (T.cls.ins "Trust" (by decide +kernel)).cl (He.noat_ok (T.c.fact 1)) (je_var 0)) (je_var 1) (je_tup (ja_cons je_str (ja_cons (je_callB (cs_len rfl) rfl (T.free 10) boot_len (ja_cons (je_fld rfl (T.cls.gm "Trust" (by decide +kernel)) (T.cls.ins "Trust" (by decide +kernel)).cl (He.noat_ok (T.c.fact 2)) (je_var 0)) ja_nil)) ja_nil))))
    (jss_one (js_expr (je_mt PySem.F.slot_list_append PySem.F.type_list_append ms_append (je_fld rfl (T.cls.gm "Trust" (by decide +kernel)) (T.cls.ins "Trust" (by decide +kernel)).cl (He.noat_ok (T.c.fact 2)) (je_var 0)) (ja_cons (je_var 1) ja_nil))))) jss_nil)
    (jss_one (js_ret (je_sub rfl rfl (hu70 hr) (je_fld rfl (T.cls.gm "Trust" (by decide +kernel)) (T.cls.ins "Trust" (by decide +kernel)).cl (He.noat_ok (T.c.fact 1)) (je_var 0)) (je_var 1))))))
theorem o_Trust_name (T : Txt txt K mg h) (TB : ∀ p ∈ txt.cs K, TabB base mg p.1 p.2) (L : Ints mg intL) : MtP (gd w K mg) P base 4 (gaS K "Trust") "name" 2 f_Trust_name := by
  obtain ⟨fd, F⟩ := T.fun_ 6 (at_ := ("Trust", some "name")) (st := s_Trust_name)
  exact ⟨_, fd, ["self", "content"], He.meth_ok (T.c.fact 19), F.binds (ps := ["self", "content"]) fun _ _ _ _ _ _ us hl => match us, hl with | [_, _], _ => rfl, fn_ok (P := P) (G := gd w K mg) (k := 3) F sc_Trust_name rfl rfl (by decide) fun cdv A outer s H E hr => j_Trust_name T TB L _ cdv A outer s H E hr⟩
theorem sc__law_blend : FnScope ["tape", "turn", "found", "great", "blended", "grain"] ["tape"] (defScope s__law_blend) := ⟨rfl, rfl, rfl, by decide +kernel, rfl, by decide +kernel, by decide +kernel⟩
theorem j__law_blend (T : Txt txt K mg h) (TB : ∀ p ∈ txt.cs K, TabB base mg p.1 p.2) (L : Ints mg intL) (f : Addr) (cdv : Value) (A : Around) (outer : List Env) (s : Shared) (H : Hp) (E : XK) (hr : Room 0 (A.deeper (envOfC "_law_blend" (defScope s__law_blend) s.heap.objs.size f cdv))) :
    JSs (gd w K mg) (cxOf (L2.CX P w) P w K mg base ["tape", "turn", "found", "great", "blended", "grain"] "_law_blend" (defScope s__law_blend) f cdv A outer s H E) b__law_blend (defBody s__law_blend) :=
    (jss_cons (js_put rfl rfl (hu70 hr) (je_var 0) je_str (je_op (os_add rfl) (je_sub rfl rfl (hu70 hr) (je_var 0) je_str) je_int))
    (jss_cons (js_par (i := 1) (j := 2) rfl sc__law_blend.nd rfl rfl (by decide) rfl rfl (ja_cons (je_callTy (cs_int) rfl (T.free 7) boot_int (ja_cons (je_sub rfl rfl (hu70 hr) (je_var 0) je_str) ja_nil)) (ja_cons je_int ja_nil)) rfl)
    (jss_cons (js_for (passes_of rfl) rfl (ji_seq rfl (je_lstD (ja_cons je_int (ja_cons je_int (ja_cons je_int ja_nil))))) (jg_name sc__law_blend.nd rfl (by first | exact Or.inl rfl | exact Or.inr rfl)) (jss_cons (js_set (i := 4) sc__law_blend.nd rfl (by first | exact Or.inl rfl | exact Or.inr rfl) (je_op os_mod (je_op (os_add rfl) (je_op (os_mul rfl) (je_var 1) je_int) (je_op os_fdiv (je_var 3) je_int)) (je_var 3)))
    (jss_cons (js_for (passes_of rfl) rfl (ji_seq rfl (je_sub rfl rfl (hu70 hr) (je_var 0) je_str)) (jg_name sc__law_blend.nd rfl (by first | exact Or.inl rfl | exact Or.inr rfl)) (jss_one (js_set (i := 4) sc__law_blend.nd rfl (by first | exact Or.inl rfl | exact Or.inr rfl) (je_op os_mod (je_op (os_add rfl) (je_op (os_mul rfl) (je_var 4) je_int) (je_callTy (cs_int) rfl (T.free 7) boot_int (ja_cons (je_var 5) ja_nil))) (je_var 3)))))
    (jss_one (js_set (i := 2) sc__law_blend.nd rfl (by first | exact Or.inl rfl | exact Or.inr rfl) (je_op (os_add rfl) (je_op (os_mul rfl) (je_var 2) je_int) (je_op os_mod (je_op os_pow (je_var 4) je_int) (je_var 3))))))))
    (jss_one (js_ret (je_var 2))))))
theorem o__law_blend (T : Txt txt K mg h) (TB : ∀ p ∈ txt.cs K, TabB base mg p.1 p.2) (L : Ints mg intL) : FnP (gd w K mg) P base 1 "_law_blend" 1 f__law_blend := by
  obtain ⟨fd, F⟩ := T.fun_ 7 (at_ := ("_law_blend", none)) (st := s__law_blend)
  exact ⟨_, fd, ["tape"], (T.glo 20), F.kp, F.binds (ps := ["tape"]) fun _ _ _ _ _ _ us hl => match us, hl with | [_], _ => rfl, fn_ok (P := P) (G := gd w K mg) (k := 0) F sc__law_blend rfl rfl (by decide) fun cdv A outer s H E hr => j__law_blend T TB L _ cdv A outer s H E hr⟩
theorem sc__law_draw : FnScope ["tape", "size", "found"] ["tape", "size"] (defScope s__law_draw) := ⟨rfl, rfl, rfl, by decide +kernel, rfl, by decide +kernel, by decide +kernel⟩
theorem j__law_draw (T : Txt txt K mg h) (TB : ∀ p ∈ txt.cs K, TabB base mg p.1 p.2) (L : Ints mg intL) (f : Addr) (cdv : Value) (A : Around) (outer : List Env) (s : Shared) (H : Hp) (E : XK) (hr : Room 1 (A.deeper (envOfC "_law_draw" (defScope s__law_draw) s.heap.objs.size f cdv))) :
    JSs (gd w K mg) (cxOf (L2.CX P w) P w K mg base ["tape", "size", "found"] "_law_draw" (defScope s__law_draw) f cdv A outer s H E) b__law_draw (defBody s__law_draw) :=
    (jss_cons (js_if (jt_cmp (os_eq rfl hr.units) (je_sub rfl rfl (hu70 hr) (je_var 0) je_str) je_int) (jss_one (js_put rfl rfl (hu70 hr) (je_var 0) je_str (je_if (jt_cmp (os_ne rfl hr.units) (je_sub rfl rfl (hu70 hr) (je_var 0) je_str) (je_lstD ja_nil)) (je_mt PySem.F.slot_list_pop PySem.F.type_list_pop ms_popAt (je_sub rfl rfl (hu70 hr) (je_var 0) je_str) (ja_cons je_int ja_nil)) (je_call (FnP.at (o__law_blend T TB L) ⟨rfl, rfl, rfl, rfl, rfl⟩ rfl) (hr.mono (by first | decide | omega)) rfl (ja_cons (je_var 0) ja_nil))))) jss_nil)
    (jss_cons (js_set (i := 2) sc__law_draw.nd rfl (by first | exact Or.inl rfl | exact Or.inr rfl) (je_op os_mod (je_callTy (cs_int) rfl (T.free 7) boot_int (ja_cons (je_sub rfl rfl (hu70 hr) (je_var 0) je_str) ja_nil)) (je_var 1)))
    (jss_cons (js_put rfl rfl (hu70 hr) (je_var 0) je_str (je_op os_fdiv (je_callTy (cs_int) rfl (T.free 7) boot_int (ja_cons (je_sub rfl rfl (hu70 hr) (je_var 0) je_str) ja_nil)) (je_var 1)))
    (jss_one (js_ret (je_var 2))))))
theorem o__law_draw (T : Txt txt K mg h) (TB : ∀ p ∈ txt.cs K, TabB base mg p.1 p.2) (L : Ints mg intL) : FnP (gd w K mg) P base 2 "_law_draw" 2 f__law_draw := by
  obtain ⟨fd, F⟩ := T.fun_ 8 (at_ := ("_law_draw", none)) (st := s__law_draw)
  exact ⟨_, fd, ["tape", "size"], (T.glo 21), F.kp, F.binds (ps := ["tape", "size"]) fun _ _ _ _ _ _ us hl => match us, hl with | [_, _], _ => rfl, fn_ok (P := P) (G := gd w K mg) (k := 1) F sc__law_draw rfl rfl (by decide) fun cdv A outer s H E hr => j__law_draw T TB L _ cdv A outer s H E hr⟩
theorem sc__law_pick : FnScope ["tape", "several"] ["tape", "several"] (defScope s__law_pick) := ⟨rfl, rfl, rfl, by decide +kernel, rfl, by decide +kernel, by decide +kernel⟩
theorem j__law_pick (T : Txt txt K mg h) (TB : ∀ p ∈ txt.cs K, TabB base mg p.1 p.2) (L : Ints mg intL) (f : Addr) (cdv : Value) (A : Around) (outer : List Env) (s : Shared) (H : Hp) (E : XK) (hr : Room 2 (A.deeper (envOfC "_law_pick" (defScope s__law_pick) s.heap.objs.size f cdv))) :
    JSs (gd w K mg) (cxOf (L2.CX P w) P w K mg base ["tape", "several"] "_law_pick" (defScope s__law_pick) f cdv A outer s H E) b__law_pick (defBody s__law_pick) :=
    (jss_one (js_ret (je_sub rfl rfl (hu70 hr) (je_var 1) (je_call (FnP.at (o__law_draw T TB L) ⟨rfl, rfl, rfl, rfl, rfl⟩ rfl) (hr.mono (by first | decide | omega)) rfl (ja_cons (je_var 0) (ja_cons (je_callB (cs_len rfl) rfl (T.free 10) boot_len (ja_cons (je_var 1) ja_nil)) ja_nil))))))
theorem o__law_pick (T : Txt txt K mg h) (TB : ∀ p ∈ txt.cs K, TabB base mg p.1 p.2) (L : Ints mg intL) : FnP (gd w K mg) P base 3 "_law_pick" 2 f__law_pick := by
  obtain ⟨fd, F⟩ := T.fun_ 9 (at_ := ("_law_pick", none)) (st := s__law_pick)
  exact ⟨_, fd, ["tape", "several"], (T.glo 22), F.kp, F.binds (ps := ["tape", "several"]) fun _ _ _ _ _ _ us hl => match us, hl with | [_, _], _ => rfl, fn_ok (P := P) (G := gd w K mg) (k := 2) F sc__law_pick rfl rfl (by decide) fun cdv A outer s H E hr => j__law_pick T TB L _ cdv A outer s H E hr⟩
theorem sc__law_bank : FnScope ["tape", "purses", "lies", "begin", "purse"] ["tape", "purses"] (defScope s__law_bank) := ⟨rfl, rfl, rfl, by decide +kernel, rfl, by decide +kernel, by decide +kernel⟩
theorem j__law_bank (T : Txt txt K mg h) (TB : ∀ p ∈ txt.cs K, TabB base mg p.1 p.2) (L : Ints mg intL) (f : Addr) (cdv : Value) (A : Around) (outer : List Env) (s : Shared) (H : Hp) (E : XK) (hr : Room 3 (A.deeper (envOfC "_law_bank" (defScope s__law_bank) s.heap.objs.size f cdv))) :
    JSs (gd w K mg) (cxOf (L2.CX P w) P w K mg base ["tape", "purses", "lies", "begin", "purse"] "_law_bank" (defScope s__law_bank) f cdv A outer s H E) b__law_bank (defBody s__law_bank) :=
    (jss_cons (js_set (i := 2) sc__law_bank.nd rfl (by first | exact Or.inl rfl | exact Or.inr rfl) (je_call (FnP.at (o__law_draw T TB L) ⟨rfl, rfl, rfl, rfl, rfl⟩ rfl) (hr.mono (by first | decide | omega)) rfl (ja_cons (je_var 0) (ja_cons je_int ja_nil))))
    (jss_cons (js_set (i := 3) sc__law_bank.nd rfl (by first | exact Or.inl rfl | exact Or.inr rfl) (je_callTy (cs_tuple rfl) rfl (T.free 11) boot_tuple (ja_cons (je_comp (own := [("purse", 4)]) rfl sc__law_bank.nd (ji_range1 rfl (T.free 23) (je_op (os_add rfl) je_int (je_call (FnP.at (o__law_draw T TB L) ⟨rfl, rfl, rfl, rfl, rfl⟩ rfl) (hr.mono (by first | decide | omega)) rfl (ja_cons (je_var 0) (ja_cons (je_var 1) ja_nil))))) (blkOk_by (own := [("purse", 4)]) (by rfl)) (by decide) (jgb_name sc__law_bank.nd rfl (fun _ _ _ _ _ => (by first | exact Or.inl rfl | exact Or.inr rfl)) (fun _ _ _ _ _ => by first | exact Or.inr rfl | exact Or.inl rfl)) (fun _ _ _ _ _ => jts_nil) (fun _ _ _ _ _ => (je_call (FnP.at (o__law_pick T TB L) ⟨rfl, rfl, rfl, rfl, rfl⟩ rfl) (hr.mono (by first | decide | omega)) rfl (ja_cons (je_var 0) (ja_cons (je_lstD (ja_cons je_int (ja_cons je_int (ja_cons je_int (ja_cons je_int (ja_cons je_int ja_nil)))))) ja_nil))))) ja_nil)))
    (jss_one (js_ret (je_tup (ja_cons (je_var 3) (ja_cons (je_op (os_add rfl) (je_op (os_add rfl) (je_op (os_mul rfl) je_int (je_var 2)) je_int) (je_call (FnP.at (o__law_draw T TB L) ⟨rfl, rfl, rfl, rfl, rfl⟩ rfl) (hr.mono (by first | decide | omega)) rfl (ja_cons (je_var 0) (ja_cons je_int ja_nil)))) (ja_cons (je_var 2) ja_nil))))))))
theorem o__law_bank (T : Txt txt K mg h) (TB : ∀ p ∈ txt.cs K, TabB base mg p.1 p.2) (L : Ints mg intL) : FnP (gd w K mg) P base 4 "_law_bank" 2 f__law_bank := by
  obtain ⟨fd, F⟩ := T.fun_ 10 (at_ := ("_law_bank", none)) (st := s__law_bank)
  exact ⟨_, fd, ["tape", "purses"], (T.glo 24), F.kp, F.binds (ps := ["tape", "purses"]) fun _ _ _ _ _ _ us hl => match us, hl with | [_, _], _ => rfl, fn_ok (P := P) (G := gd w K mg) (k := 3) F sc__law_bank rfl rfl (by decide) fun cdv A outer s H E hr => j__law_bank T TB L _ cdv A outer s H E hr⟩
theorem sc__law_begun : FnScope ["script", "large", "grain"] ["script"] (defScope s__law_begun) := ⟨rfl, rfl, rfl, by decide +kernel, rfl, by decide +kernel, by decide +kernel⟩
theorem j__law_begun (T : Txt txt K mg h) (TB : ∀ p ∈ txt.cs K, TabB base mg p.1 p.2) (L : Ints mg intL) (f : Addr) (cdv : Value) (A : Around) (outer : List Env) (s : Shared) (H : Hp) (E : XK) (hr : Room 0 (A.deeper (envOfC "_law_begun" (defScope s__law_begun) s.heap.objs.size f cdv))) :
    JSs (gd w K mg) (cxOf (L2.CX P w) P w K mg base ["script", "large", "grain"] "_law_begun" (defScope s__law_begun) f cdv A outer s H E) b__law_begun (defBody s__law_begun) :=
    (jss_cons (js_setLcH (own := [("grain", 2)]) rfl sc__law_begun.nd rfl rfl (sw_true rfl rfl rfl rfl) (ji_seq rfl (je_var 0)) (blkOk_by (own := [("grain", 2)]) (by rfl)) (by decide) (jgb_name sc__law_begun.nd rfl (fun _ _ _ _ _ => (by first | exact Or.inl rfl | exact Or.inr rfl)) (fun _ _ _ _ _ => by first | exact Or.inr rfl | exact Or.inl rfl)) (fun _ _ _ _ _ => (jts_one (jt_cmp (os_ge rfl (hu70 hr)) (je_callB (cs_abs) rfl (T.free 14) boot_abs (ja_cons (je_var 2) ja_nil)) (je_op os_pow je_int je_int)))) (fun _ _ _ _ _ => (je_op os_sub (je_callB (cs_abs) rfl (T.free 14) boot_abs (ja_cons (je_var 2) ja_nil)) (je_op os_pow je_int je_int))))
    (jss_one (js_ret (je_disp rfl (jp_cons (je_var 1) (jp_cons je_int (jp_cons (je_comp (own := [("grain", 2)]) rfl sc__law_begun.nd (ji_seq rfl (je_var 0)) (blkOk_by (own := [("grain", 2)]) (by rfl)) (by decide) (jgb_name sc__law_begun.nd rfl (fun _ _ _ _ _ => (by first | exact Or.inl rfl | exact Or.inr rfl)) (fun _ _ _ _ _ => by first | exact Or.inr rfl | exact Or.inl rfl)) (fun _ _ _ _ _ => jts_nil) (fun _ _ _ _ _ => (je_callB (cs_abs) rfl (T.free 14) boot_abs (ja_cons (je_var 2) ja_nil)))) (jp_cons je_int jp_nil)))) (by decide +kernel) (by simp) (by decide)))))
theorem o__law_begun (T : Txt txt K mg h) (TB : ∀ p ∈ txt.cs K, TabB base mg p.1 p.2) (L : Ints mg intL) : FnP (gd w K mg) P base 1 "_law_begun" 1 f__law_begun := by
  obtain ⟨fd, F⟩ := T.fun_ 11 (at_ := ("_law_begun", none)) (st := s__law_begun)
  exact ⟨_, fd, ["script"], (T.glo 25), F.kp, F.binds (ps := ["script"]) fun _ _ _ _ _ _ us hl => match us, hl with | [_], _ => rfl, fn_ok (P := P) (G := gd w K mg) (k := 0) F sc__law_begun rfl rfl (by decide) fun cdv A outer s H E hr => j__law_begun T TB L _ cdv A outer s H E hr⟩
theorem sc__law_shuffled : FnScope ["tape", "several", "left", "found"] ["tape", "several"] (defScope s__law_shuffled) := ⟨rfl, rfl, rfl, by decide +kernel, rfl, by decide +kernel, by decide +kernel⟩
theorem j__law_shuffled (T : Txt txt K mg h) (TB : ∀ p ∈ txt.cs K, TabB base mg p.1 p.2) (L : Ints mg intL) (f : Addr) (cdv : Value) (A : Around) (outer : List Env) (s : Shared) (H : Hp) (E : XK) (hr : Room 2 (A.deeper (envOfC "_law_shuffled" (defScope s__law_shuffled) s.heap.objs.size f cdv))) :
    JSs (gd w K mg) (cxOf (L2.CX P w) P w K mg base ["tape", "several", "left", "found"] "_law_shuffled" (defScope s__law_shuffled) f cdv A outer s H E) b__law_shuffled (defBody s__law_shuffled) :=
    (jss_cons (js_par (i := 2) (j := 3) rfl sc__law_shuffled.nd rfl rfl (by decide) rfl rfl (ja_cons (je_listH rfl rfl (T.free 26) (ja_cons (je_var 1) ja_nil)) (ja_cons (je_lstH ja_nil) ja_nil)) rfl)
    (jss_cons (js_while (passes_of rfl) (jt_cmp (os_ne rfl hr.units) (je_var 2) (je_lstD ja_nil)) (jss_one (js_expr (je_mt PySem.F.slot_list_append PySem.F.type_list_append ms_append (je_var 3) (ja_cons (je_mt PySem.F.slot_list_pop PySem.F.type_list_pop ms_popAt (je_var 2) (ja_cons (je_call (FnP.at (o__law_draw T TB L) ⟨rfl, rfl, rfl, rfl, rfl⟩ rfl) (hr.mono (by first | decide | omega)) rfl (ja_cons (je_var 0) (ja_cons (je_callB (cs_len rfl) rfl (T.free 10) boot_len (ja_cons (je_var 2) ja_nil)) ja_nil))) ja_nil)) ja_nil)))))
    (jss_one (js_ret (je_var 3)))))
theorem o__law_shuffled (T : Txt txt K mg h) (TB : ∀ p ∈ txt.cs K, TabB base mg p.1 p.2) (L : Ints mg intL) : FnP (gd w K mg) P base 3 "_law_shuffled" 2 f__law_shuffled := by
  obtain ⟨fd, F⟩ := T.fun_ 12 (at_ := ("_law_shuffled", none)) (st := s__law_shuffled)
  exact ⟨_, fd, ["tape", "several"], (T.glo 27), F.kp, F.binds (ps := ["tape", "several"]) fun _ _ _ _ _ _ us hl => match us, hl with | [_, _], _ => rfl, fn_ok (P := P) (G := gd w K mg) (k := 2) F sc__law_shuffled rfl rfl (by decide) fun cdv A outer s H E hr => j__law_shuffled T TB L _ cdv A outer s H E hr⟩
theorem sc__law_charter : FnScope ["tape", "many", "proposers", "first", "lots", "owner"] ["tape"] (defScope s__law_charter) := ⟨rfl, rfl, rfl, by decide +kernel, rfl, by decide +kernel, by decide +kernel⟩
theorem j__law_charter (T : Txt txt K mg h) (TB : ∀ p ∈ txt.cs K, TabB base mg p.1 p.2) (L : Ints mg intL) (f : Addr) (cdv : Value) (A : Around) (outer : List Env) (s : Shared) (H : Hp) (E : XK) (hr : Room 3 (A.deeper (envOfC "_law_charter" (defScope s__law_charter) s.heap.objs.size f cdv))) :
    JSs (gd w K mg) (cxOf (L2.CX P w) P w K mg base ["tape", "many", "proposers", "first", "lots", "owner"] "_law_charter" (defScope s__law_charter) f cdv A outer s H E) b__law_charter (defBody s__law_charter) :=
    (jss_cons (js_set (i := 1) sc__law_charter.nd rfl (by first | exact Or.inl rfl | exact Or.inr rfl) (je_op (os_add rfl) je_int (je_call (FnP.at (o__law_draw T TB L) ⟨rfl, rfl, rfl, rfl, rfl⟩ rfl) (hr.mono (by first | decide | omega)) rfl (ja_cons (je_var 0) (ja_cons je_int ja_nil)))))
    (jss_cons (js_set (i := 2) sc__law_charter.nd rfl (by first | exact Or.inl rfl | exact Or.inr rfl) (je_callTy (cs_tuple rfl) rfl (T.free 11) boot_tuple (ja_cons (je_callB (cs_sorted rfl (hu70 hr)) rfl (T.free 28) boot_sorted (ja_cons (je_slice rfl (je_call (FnP.at (o__law_shuffled T TB L) ⟨rfl, rfl, rfl, rfl, rfl⟩ rfl) (hr.mono (by first | decide | omega)) rfl (ja_cons (je_var 0) (ja_cons (je_list1 rfl rfl (T.free 26) rfl (T.free 23) (je_var 1)) ja_nil))) jo_none (jo_some (je_op (os_add rfl) je_int (je_call (FnP.at (o__law_draw T TB L) ⟨rfl, rfl, rfl, rfl, rfl⟩ rfl) (hr.mono (by first | decide | omega)) rfl (ja_cons (je_var 0) (ja_cons (je_var 1) ja_nil)))))) ja_nil)) ja_nil)))
    (jss_cons (js_set (i := 3) sc__law_charter.nd rfl (by first | exact Or.inl rfl | exact Or.inr rfl) (je_callTy (cs_tuple rfl) rfl (T.free 11) boot_tuple (ja_cons (je_callB (cs_sorted rfl (hu70 hr)) rfl (T.free 28) boot_sorted (ja_cons (je_slice rfl (je_call (FnP.at (o__law_shuffled T TB L) ⟨rfl, rfl, rfl, rfl, rfl⟩ rfl) (hr.mono (by first | decide | omega)) rfl (ja_cons (je_var 0) (ja_cons (je_list1 rfl rfl (T.free 26) rfl (T.free 23) (je_var 1)) ja_nil))) jo_none (jo_some (je_op (os_add rfl) je_int (je_call (FnP.at (o__law_draw T TB L) ⟨rfl, rfl, rfl, rfl, rfl⟩ rfl) (hr.mono (by first | decide | omega)) rfl (ja_cons (je_var 0) (ja_cons (je_var 1) ja_nil)))))) ja_nil)) ja_nil)))
    (jss_cons (js_set (i := 4) sc__law_charter.nd rfl (by first | exact Or.inl rfl | exact Or.inr rfl) (je_op (os_add rfl) (je_lstD (ja_cons (je_var 3) ja_nil)) (je_comp (own := [("owner", 5)]) rfl sc__law_charter.nd (ji_range1 rfl (T.free 23) (je_var 1)) (blkOk_by (own := [("owner", 5)]) (by rfl)) (by decide) (jgb_name sc__law_charter.nd rfl (fun _ _ _ _ _ => (by first | exact Or.inl rfl | exact Or.inr rfl)) (fun _ _ _ _ _ => by first | exact Or.inr rfl | exact Or.inl rfl)) (fun _ _ _ _ _ => (jts_one (jt_pw (jw_and (jt_cmp (os_notIn rfl rfl (hu70 hr)) (je_var 5) (je_var 3) (by first | exact nomark _ | rfl | with_unfolding_all rfl)) (jw_and1 (jt_cmp (os_eq rfl hr.units) (je_call (FnP.at (o__law_draw T TB L) ⟨rfl, rfl, rfl, rfl, rfl⟩ rfl) (hr.mono (by first | decide | omega)) rfl (ja_cons (je_var 0) (ja_cons je_int ja_nil))) je_int)))))) (fun _ _ _ _ _ => (je_tup (ja_cons (je_var 5) ja_nil))))))
    (jss_one (js_ret (je_tup (ja_cons (je_var 1) (ja_cons (je_var 2) (ja_cons (je_callTy (cs_tuple rfl) rfl (T.free 11) boot_tuple (ja_cons (je_callB (cs_sorted rfl (hu70 hr)) rfl (T.free 28) boot_sorted (ja_cons (je_var 4) ja_nil)) ja_nil)) ja_nil))))))))))
theorem o__law_charter (T : Txt txt K mg h) (TB : ∀ p ∈ txt.cs K, TabB base mg p.1 p.2) (L : Ints mg intL) : FnP (gd w K mg) P base 4 "_law_charter" 1 f__law_charter := by
  obtain ⟨fd, F⟩ := T.fun_ 13 (at_ := ("_law_charter", none)) (st := s__law_charter)
  exact ⟨_, fd, ["tape"], (T.glo 29), F.kp, F.binds (ps := ["tape"]) fun _ _ _ _ _ _ us hl => match us, hl with | [_], _ => rfl, fn_ok (P := P) (G := gd w K mg) (k := 3) F sc__law_charter rfl rfl (by decide) fun cdv A outer s H E hr => j__law_charter T TB L _ cdv A outer s H E hr⟩
theorem sc__law_near : FnScope ["charter", "many", "proposers", "lots", "found", "lot"] ["charter"] (defScope s__law_near) := ⟨rfl, rfl, rfl, by decide +kernel, rfl, by decide +kernel, by decide +kernel⟩
theorem j__law_near (T : Txt txt K mg h) (TB : ∀ p ∈ txt.cs K, TabB base mg p.1 p.2) (L : Ints mg intL) (f : Addr) (cdv : Value) (A : Around) (outer : List Env) (s : Shared) (H : Hp) (E : XK) (hr : Room 0 (A.deeper (envOfC "_law_near" (defScope s__law_near) s.heap.objs.size f cdv))) :
    JSs (gd w K mg) (cxOf (L2.CX P w) P w K mg base ["charter", "many", "proposers", "lots", "found", "lot"] "_law_near" (defScope s__law_near) f cdv A outer s H E) b__law_near (defBody s__law_near) :=
    (jss_cons (js_asg (je_var 0) (jg_tup rfl rfl (jgs_cons (jg_name sc__law_near.nd rfl (by first | exact Or.inl rfl | exact Or.inr rfl)) (jgs_cons (jg_name sc__law_near.nd rfl (by first | exact Or.inl rfl | exact Or.inr rfl)) (jgs_cons (jg_name sc__law_near.nd rfl (by first | exact Or.inl rfl | exact Or.inr rfl)) jgs_nil)))))
    (jss_cons (js_set (i := 4) sc__law_near.nd rfl (by first | exact Or.inl rfl | exact Or.inr rfl) (je_lstD (ja_cons je_none (ja_cons (je_callTy (cs_list rfl) rfl (T.free 26) boot_list (ja_cons (je_var 0) ja_nil)) (ja_cons (je_op (os_add rfl) (je_var 0) (je_tup (ja_cons je_int ja_nil))) (ja_cons (je_tup (ja_cons je_int (ja_cons (je_var 2) (ja_cons (je_var 3) ja_nil)))) (ja_cons (je_tup (ja_cons je_int (ja_cons (je_var 2) (ja_cons (je_var 3) ja_nil)))) (ja_cons (je_tup (ja_cons je_bool (ja_cons (je_var 2) (ja_cons (je_var 3) ja_nil)))) (ja_cons (je_tup (ja_cons (je_var 1) (ja_cons (je_tup ja_nil) (ja_cons (je_var 3) ja_nil)))) ja_nil)))))))))
    (jss_cons (js_set (i := 4) sc__law_near.nd rfl (by first | exact Or.inl rfl | exact Or.inr rfl) (je_op (os_add rfl) (je_var 4) (je_lstD (ja_cons (je_tup (ja_cons (je_var 1) (ja_cons (je_op (os_add rfl) (je_rev rfl (je_var 2)) (je_var 2)) (ja_cons (je_var 3) ja_nil)))) (ja_cons (je_tup (ja_cons (je_var 1) (ja_cons (je_tup (ja_cons (je_var 1) ja_nil)) (ja_cons (je_var 3) ja_nil)))) (ja_cons (je_tup (ja_cons (je_var 1) (ja_cons (je_callTy (cs_list rfl) rfl (T.free 26) boot_list (ja_cons (je_var 2) ja_nil)) (ja_cons (je_var 3) ja_nil)))) (ja_cons (je_tup (ja_cons (je_var 1) (ja_cons (je_var 2) (ja_cons (je_tup ja_nil) ja_nil)))) ja_nil)))))))
    (jss_cons (js_set (i := 4) sc__law_near.nd rfl (by first | exact Or.inl rfl | exact Or.inr rfl) (je_op (os_add rfl) (je_var 4) (je_lstD (ja_cons (je_tup (ja_cons (je_var 1) (ja_cons (je_var 2) (ja_cons (je_op (os_add rfl) (je_var 3) (je_slice rfl (je_var 3) jo_none (jo_some je_int))) ja_nil)))) (ja_cons (je_tup (ja_cons (je_var 1) (ja_cons (je_var 2) (ja_cons (je_tup (ja_cons (je_tup ja_nil) ja_nil)) ja_nil)))) (ja_cons (je_tup (ja_cons (je_var 1) (ja_cons (je_var 2) (ja_cons (je_callTy (cs_list rfl) rfl (T.free 26) boot_list (ja_cons (je_var 3) ja_nil)) ja_nil)))) (ja_cons (je_tup (ja_cons (je_var 1) (ja_cons (je_var 2) (ja_cons (je_tup (ja_cons (je_tup (ja_cons (je_var 1) ja_nil)) ja_nil)) ja_nil)))) ja_nil)))))))
    (jss_one (js_ret (je_op (os_add rfl) (je_var 4) (je_lstD (ja_cons (je_tup (ja_cons (je_var 1) (ja_cons (je_var 2) (ja_cons (je_callTy (cs_tuple rfl) rfl (T.free 11) boot_tuple (ja_cons (je_comp (own := [("lot", 5)]) rfl sc__law_near.nd (ji_seq rfl (je_var 3)) (blkOk_by (own := [("lot", 5)]) (by rfl)) (by decide) (jgb_name sc__law_near.nd rfl (fun _ _ _ _ _ => (by first | exact Or.inl rfl | exact Or.inr rfl)) (fun _ _ _ _ _ => by first | exact Or.inr rfl | exact Or.inl rfl)) (fun _ _ _ _ _ => jts_nil) (fun _ _ _ _ _ => (je_callTy (cs_list rfl) rfl (T.free 26) boot_list (ja_cons (je_var 5) ja_nil)))) ja_nil)) ja_nil)))) ja_nil)))))))))
theorem o__law_near (T : Txt txt K mg h) (TB : ∀ p ∈ txt.cs K, TabB base mg p.1 p.2) (L : Ints mg intL) : FnP (gd w K mg) P base 1 "_law_near" 1 f__law_near := by
  obtain ⟨fd, F⟩ := T.fun_ 14 (at_ := ("_law_near", none)) (st := s__law_near)
  exact ⟨_, fd, ["charter"], (T.glo 30), F.kp, F.binds (ps := ["charter"]) fun _ _ _ _ _ _ us hl => match us, hl with | [_], _ => rfl, fn_ok (P := P) (G := gd w K mg) (k := 0) F sc__law_near rfl rfl (by decide) fun cdv A outer s H E hr => j__law_near T TB L _ cdv A outer s H E hr⟩
theorem sc_is_who : FnScope ["value"] ["value"] (defScope s_is_who) := ⟨rfl, rfl, rfl, by decide +kernel, rfl, by decide +kernel, by decide +kernel⟩
theorem j_is_who (T : Txt txt K mg h) (TB : ∀ p ∈ txt.cs K, TabB base mg p.1 p.2) (L : Ints mg intL) (f : Addr) (cdv : Value) (A : Around) (outer : List Env) (s : Shared) (H : Hp) (E : XK) (hr : Room 1 (A.deeper (envOfC "is_who" (defScope s_is_who) s.heap.objs.size f cdv))) :
    JSs (gd w K mg) (cxOf (L2.CX P w) P w K mg base ["value"] "is_who" (defScope s_is_who) f cdv A outer s H E) b_is_who (defBody s_is_who) :=
    (jss_cons (js_if (jt_pw (jw_or (jt_not (jt_val (je_isiB rfl (isiB_ok rfl T.cls (by decide)) rfl (T.free 5) rfl (T.free 11) boot_tuple (je_var 0)))) (jw_or (jt_cmp (os_ne rfl hr.units) (je_callB (cs_len rfl) rfl (T.free 10) boot_len (ja_cons (je_var 0) ja_nil)) je_int) (jw_or1 (jt_not (jt_val (je_isiB rfl (isiB_ok rfl T.cls (by decide)) rfl (T.free 5) rfl (T.free 9) boot_str (je_sub rfl rfl (hu70 hr) (je_var 0) je_int)))))))) (jss_one (js_ret je_bool)) jss_nil)
    (jss_one (js_ret (je_and (je_cmp (os_in rfl rfl (hu70 hr)) (je_sub rfl rfl (hu70 hr) (je_var 0) je_int) (je_tup (ja_cons je_str (ja_cons je_str ja_nil))) (by first | exact nomark _ | rfl | with_unfolding_all rfl)) (je_one (je_call (FnP.at (o_is_number T TB L) ⟨rfl, rfl, rfl, rfl, rfl⟩ rfl) (hr.mono (by first | decide | omega)) rfl (ja_cons (je_sub rfl rfl (hu70 hr) (je_var 0) je_int) (ja_cons je_int ja_nil))))))))
theorem o_is_who (T : Txt txt K mg h) (TB : ∀ p ∈ txt.cs K, TabB base mg p.1 p.2) (L : Ints mg intL) : FnP (gd w K mg) P base 2 "is_who" 1 f_is_who := by
  obtain ⟨fd, F⟩ := T.fun_ 15 (at_ := ("is_who", none)) (st := s_is_who)
  exact ⟨_, fd, ["value"], (T.glo 31), F.kp, F.binds (ps := ["value"]) fun _ _ _ _ _ _ us hl => match us, hl with | [_], _ => rfl, fn_ok (P := P) (G := gd w K mg) (k := 1) F sc_is_who rfl rfl (by decide) fun cdv A outer s H E hr => j_is_who T TB L _ cdv A outer s H E hr⟩
theorem sc_Trust_seal : FnScope ["self", "who", "name"] ["self", "who", "name"] (defScope s_Trust_seal) := ⟨rfl, rfl, rfl, by decide +kernel, rfl, by decide +kernel, by decide +kernel⟩
theorem j_Trust_seal (T : Txt txt K mg h) (TB : ∀ p ∈ txt.cs K, TabB base mg p.1 p.2) (L : Ints mg intL) (f : Addr) (cdv : Value) (A : Around) (outer : List Env) (s : Shared) (H : Hp) (E : XK) (hr : Room 3 (A.deeper (envOfC "Trust.seal" (defScope s_Trust_seal) s.heap.objs.size f cdv))) :
    JSs (gd w K mg) (cxOf (L2.CX P w) P w K mg base ["self", "who", "name"] "Trust.seal" (defScope s_Trust_seal) f cdv A outer s H E) b_Trust_seal (defBody s_Trust_seal) :=
    (jss_cons (js_if (jt_not (jt_val (je_call (FnP.at (o_is_who T TB L) ⟨rfl, rfl, rfl, rfl, rfl⟩ rfl) (hr.mono (by first | decide | omega)) rfl (ja_cons (je_var 1) ja_nil)))) (jss_one (js_raise' (c := "BadWho") rfl (He.exc_ok (T.c.fact 33)) (T.cls.gm "BadWho" (by decide +kernel)) rfl rfl)) jss_nil)
    (jss_cons (js_if (jt_not (jt_val (je_meth rfl (T.cls.gm "Trust" (by decide +kernel)) (T.cls.ins "Trust" (by decide +kernel)).cl (MtP.at (o_Trust_is_name T TB L) ⟨rfl, rfl, rfl, rfl, rfl⟩ rfl) (hr.mono (by first | decide | omega)) (je_var 0) (ja_cons (je_var 2) ja_nil)))) (jss_one (js_raise' (c := "BadName") rfl (He.exc_ok (T.c.fact 32)) (T.cls.gm "BadName" (by decide +kernel)) rfl rfl)) jss_nil)
    (jss_one (js_put rfl rfl (hu70 hr) (je_fld rfl (T.cls.gm "Trust" (by decide +kernel)) (T.cls.ins "Trust" (by decide +kernel)).cl (He.noat_ok (T.c.fact 0)) (je_var 0)) (je_tup (ja_cons (je_var 1) (ja_cons (je_var 2) ja_nil))) je_bool))))
theorem o_Trust_seal (T : Txt txt K mg h) (TB : ∀ p ∈ txt.cs K, TabB base mg p.1 p.2) (L : Ints mg intL) : MtP (gd w K mg) P base 4 (gaS K "Trust") "seal" 3 f_Trust_seal := by
  obtain ⟨fd, F⟩ := T.fun_ 16 (at_ := ("Trust", some "seal")) (st := s_Trust_seal)
  exact ⟨_, fd, ["self", "who", "name"], He.meth_ok (T.c.fact 34), F.binds (ps := ["self", "who", "name"]) fun _ _ _ _ _ _ us hl => match us, hl with | [_, _, _], _ => rfl, fn_ok (P := P) (G := gd w K mg) (k := 3) F sc_Trust_seal rfl rfl (by decide) fun cdv A outer s H E hr => j_Trust_seal T TB L _ cdv A outer s H E hr⟩
theorem sc__law_is_bool : FnScope ["value", "due"] ["value", "due"] (defScope s__law_is_bool) := ⟨rfl, rfl, rfl, by decide +kernel, rfl, by decide +kernel, by decide +kernel⟩
theorem j__law_is_bool (T : Txt txt K mg h) (TB : ∀ p ∈ txt.cs K, TabB base mg p.1 p.2) (L : Ints mg intL) (f : Addr) (cdv : Value) (A : Around) (outer : List Env) (s : Shared) (H : Hp) (E : XK) (hr : Room 0 (A.deeper (envOfC "_law_is_bool" (defScope s__law_is_bool) s.heap.objs.size f cdv))) :
    JSs (gd w K mg) (cxOf (L2.CX P w) P w K mg base ["value", "due"] "_law_is_bool" (defScope s__law_is_bool) f cdv A outer s H E) b__law_is_bool (defBody s__law_is_bool) :=
    (jss_one (js_ret (je_if (jt_val (je_var 1)) (je_cmp os_is (je_var 0) je_bool) (je_cmp os_is (je_var 0) je_bool))))
theorem o__law_is_bool (T : Txt txt K mg h) (TB : ∀ p ∈ txt.cs K, TabB base mg p.1 p.2) (L : Ints mg intL) : FnP (gd w K mg) P base 1 "_law_is_bool" 2 f__law_is_bool := by
  obtain ⟨fd, F⟩ := T.fun_ 17 (at_ := ("_law_is_bool", none)) (st := s__law_is_bool)
  exact ⟨_, fd, ["value", "due"], (T.glo 35), F.kp, F.binds (ps := ["value", "due"]) fun _ _ _ _ _ _ us hl => match us, hl with | [_, _], _ => rfl, fn_ok (P := P) (G := gd w K mg) (k := 0) F sc__law_is_bool rfl rfl (by decide) fun cdv A outer s H E hr => j__law_is_bool T TB L _ cdv A outer s H E hr⟩
theorem sc_all_within : FnScope ["part", "whole", "owner"] ["part", "whole"] (defScope s_all_within) := ⟨rfl, rfl, rfl, by decide +kernel, rfl, by decide +kernel, by decide +kernel⟩
theorem j_all_within (T : Txt txt K mg h) (TB : ∀ p ∈ txt.cs K, TabB base mg p.1 p.2) (L : Ints mg intL) (f : Addr) (cdv : Value) (A : Around) (outer : List Env) (s : Shared) (H : Hp) (E : XK) (hr : Room 0 (A.deeper (envOfC "all_within" (defScope s_all_within) s.heap.objs.size f cdv))) :
    JSs (gd w K mg) (cxOf (L2.CX P w) P w K mg base ["part", "whole", "owner"] "all_within" (defScope s_all_within) f cdv A outer s H E) b_all_within (defBody s_all_within) :=
    (jss_one (js_ret (je_callB (cs_all rfl rfl) rfl (T.free 17) boot_all (ja_cons (je_comp (own := [("owner", 2)]) rfl sc_all_within.nd (ji_seq rfl (je_var 0)) (blkOk_by (own := [("owner", 2)]) (by rfl)) (by decide) (jgb_name sc_all_within.nd rfl (fun _ _ _ _ _ => (by first | exact Or.inl rfl | exact Or.inr rfl)) (fun _ _ _ _ _ => by first | exact Or.inr rfl | exact Or.inl rfl)) (fun _ _ _ _ _ => jts_nil) (fun _ _ _ _ _ => (je_cmp (os_in rfl rfl (hu70 hr)) (je_var 2) (je_var 1) (by first | exact nomark _ | rfl | with_unfolding_all rfl)))) ja_nil))))
theorem o_all_within (T : Txt txt K mg h) (TB : ∀ p ∈ txt.cs K, TabB base mg p.1 p.2) (L : Ints mg intL) : FnP (gd w K mg) P base 1 "all_within" 2 f_all_within := by
  obtain ⟨fd, F⟩ := T.fun_ 18 (at_ := ("all_within", none)) (st := s_all_within)
  exact ⟨_, fd, ["part", "whole"], (T.glo 36), F.kp, F.binds (ps := ["part", "whole"]) fun _ _ _ _ _ _ us hl => match us, hl with | [_, _], _ => rfl, fn_ok (P := P) (G := gd w K mg) (k := 0) F sc_all_within rfl rfl (by decide) fun cdv A outer s H E hr => j_all_within T TB L _ cdv A outer s H E hr⟩
theorem sc_has_lot : FnScope ["charter", "owners", "lot"] ["charter", "owners"] (defScope s_has_lot) := ⟨rfl, rfl, rfl, by decide +kernel, rfl, by decide +kernel, by decide +kernel⟩
theorem j_has_lot (T : Txt txt K mg h) (TB : ∀ p ∈ txt.cs K, TabB base mg p.1 p.2) (L : Ints mg intL) (f : Addr) (cdv : Value) (A : Around) (outer : List Env) (s : Shared) (H : Hp) (E : XK) (hr : Room 1 (A.deeper (envOfC "has_lot" (defScope s_has_lot) s.heap.objs.size f cdv))) :
    JSs (gd w K mg) (cxOf (L2.CX P w) P w K mg base ["charter", "owners", "lot"] "has_lot" (defScope s_has_lot) f cdv A outer s H E) b_has_lot (defBody s_has_lot) :=
    (jss_one (js_ret (je_callB (cs_any rfl rfl) rfl (T.free 37) boot_any (ja_cons (je_comp (own := [("lot", 2)]) rfl sc_has_lot.nd (ji_seq rfl (je_sub rfl rfl (hu70 hr) (je_var 0) je_int)) (blkOk_by (own := [("lot", 2)]) (by rfl)) (by decide) (jgb_name sc_has_lot.nd rfl (fun _ _ _ _ _ => (by first | exact Or.inl rfl | exact Or.inr rfl)) (fun _ _ _ _ _ => by first | exact Or.inr rfl | exact Or.inl rfl)) (fun _ _ _ _ _ => jts_nil) (fun _ _ _ _ _ => (je_call (FnP.at (o_all_within T TB L) ⟨rfl, rfl, rfl, rfl, rfl⟩ rfl) (hr.mono (by first | decide | omega)) rfl (ja_cons (je_var 2) (ja_cons (je_var 1) ja_nil))))) ja_nil))))
theorem o_has_lot (T : Txt txt K mg h) (TB : ∀ p ∈ txt.cs K, TabB base mg p.1 p.2) (L : Ints mg intL) : FnP (gd w K mg) P base 2 "has_lot" 2 f_has_lot := by
  obtain ⟨fd, F⟩ := T.fun_ 19 (at_ := ("has_lot", none)) (st := s_has_lot)
  exact ⟨_, fd, ["charter", "owners"], (T.glo 38), F.kp, F.binds (ps := ["charter", "owners"]) fun _ _ _ _ _ _ us hl => match us, hl with | [_, _], _ => rfl, fn_ok (P := P) (G := gd w K mg) (k := 1) F sc_has_lot rfl rfl (by decide) fun cdv A outer s H E hr => j_has_lot T TB L _ cdv A outer s H E hr⟩
theorem sc_can_pay : FnScope ["charter", "owners", "owner"] ["charter", "owners"] (defScope s_can_pay) := ⟨rfl, rfl, rfl, by decide +kernel, rfl, by decide +kernel, by decide +kernel⟩
theorem j_can_pay (T : Txt txt K mg h) (TB : ∀ p ∈ txt.cs K, TabB base mg p.1 p.2) (L : Ints mg intL) (f : Addr) (cdv : Value) (A : Around) (outer : List Env) (s : Shared) (H : Hp) (E : XK) (hr : Room 2 (A.deeper (envOfC "can_pay" (defScope s_can_pay) s.heap.objs.size f cdv))) :
    JSs (gd w K mg) (cxOf (L2.CX P w) P w K mg base ["charter", "owners", "owner"] "can_pay" (defScope s_can_pay) f cdv A outer s H E) b_can_pay (defBody s_can_pay) :=
    (jss_one (js_ret (je_and (je_call (FnP.at (o_has_lot T TB L) ⟨rfl, rfl, rfl, rfl, rfl⟩ rfl) (hr.mono (by first | decide | omega)) rfl (ja_cons (je_var 0) (ja_cons (je_var 1) ja_nil))) (je_one (je_callB (cs_any rfl rfl) rfl (T.free 37) boot_any (ja_cons (je_comp (own := [("owner", 2)]) rfl sc_can_pay.nd (ji_seq rfl (je_sub rfl rfl (hu70 hr) (je_var 0) je_int)) (blkOk_by (own := [("owner", 2)]) (by rfl)) (by decide) (jgb_name sc_can_pay.nd rfl (fun _ _ _ _ _ => (by first | exact Or.inl rfl | exact Or.inr rfl)) (fun _ _ _ _ _ => by first | exact Or.inr rfl | exact Or.inl rfl)) (fun _ _ _ _ _ => jts_nil) (fun _ _ _ _ _ => (je_cmp (os_in rfl rfl (hu70 hr)) (je_var 2) (je_var 1) (by first | exact nomark _ | rfl | with_unfolding_all rfl)))) ja_nil))))))
theorem o_can_pay (T : Txt txt K mg h) (TB : ∀ p ∈ txt.cs K, TabB base mg p.1 p.2) (L : Ints mg intL) : FnP (gd w K mg) P base 3 "can_pay" 2 f_can_pay := by
  obtain ⟨fd, F⟩ := T.fun_ 20 (at_ := ("can_pay", none)) (st := s_can_pay)
  exact ⟨_, fd, ["charter", "owners"], (T.glo 39), F.kp, F.binds (ps := ["charter", "owners"]) fun _ _ _ _ _ _ us hl => match us, hl with | [_, _], _ => rfl, fn_ok (P := P) (G := gd w K mg) (k := 2) F sc_can_pay rfl rfl (by decide) fun cdv A outer s H E hr => j_can_pay T TB L _ cdv A outer s H E hr⟩
theorem sc_Trust_content : FnScope ["self", "name"] ["self", "name"] (defScope s_Trust_content) := ⟨rfl, rfl, rfl, by decide +kernel, rfl, by decide +kernel, by decide +kernel⟩
theorem j_Trust_content (T : Txt txt K mg h) (TB : ∀ p ∈ txt.cs K, TabB base mg p.1 p.2) (L : Ints mg intL) (f : Addr) (cdv : Value) (A : Around) (outer : List Env) (s : Shared) (H : Hp) (E : XK) (hr : Room 3 (A.deeper (envOfC "Trust.content" (defScope s_Trust_content) s.heap.objs.size f cdv))) :
    JSs (gd w K mg) (cxOf (L2.CX P w) P w K mg base ["self", "name"] "Trust.content" (defScope s_Trust_content) f cdv A outer s H E) b_Trust_content (defBody s_Trust_content) :=
    (jss_cons (js_if (jt_not (jt_val (je_meth rfl (T.cls.gm "Trust" (by decide +kernel)) (T.cls.ins "Trust" (by decide +kernel)).cl (MtP.at (o_Trust_is_name T TB L) ⟨rfl, rfl, rfl, rfl, rfl⟩ rfl) (hr.mono (by first | decide | omega)) (je_var 0) (ja_cons (je_var 1) ja_nil)))) (jss_one (js_raise' (c := "BadName") rfl (He.exc_ok (T.c.fact 32)) (T.cls.gm "BadName" (by decide +kernel)) rfl rfl)) jss_nil)
    (jss_one (js_ret (je_sub rfl rfl (hu70 hr) (je_fld rfl (T.cls.gm "Trust" (by decide +kernel)) (T.cls.ins "Trust" (by decide +kernel)).cl (He.noat_ok (T.c.fact 2)) (je_var 0)) (je_sub rfl rfl (hu70 hr) (je_var 1) je_int)))))
theorem o_Trust_content (T : Txt txt K mg h) (TB : ∀ p ∈ txt.cs K, TabB base mg p.1 p.2) (L : Ints mg intL) : MtP (gd w K mg) P base 4 (gaS K "Trust") "content" 2 f_Trust_content := by
  obtain ⟨fd, F⟩ := T.fun_ 21 (at_ := ("Trust", some "content")) (st := s_Trust_content)
  exact ⟨_, fd, ["self", "name"], He.meth_ok (T.c.fact 40), F.binds (ps := ["self", "name"]) fun _ _ _ _ _ _ us hl => match us, hl with | [_, _], _ => rfl, fn_ok (P := P) (G := gd w K mg) (k := 3) F sc_Trust_content rfl rfl (by decide) fun cdv A outer s H E hr => j_Trust_content T TB L _ cdv A outer s H E hr⟩
theorem sc_Trust_sealed : FnScope ["self", "who", "name"] ["self", "who", "name"] (defScope s_Trust_sealed) := ⟨rfl, rfl, rfl, by decide +kernel, rfl, by decide +kernel, by decide +kernel⟩
theorem j_Trust_sealed (T : Txt txt K mg h) (TB : ∀ p ∈ txt.cs K, TabB base mg p.1 p.2) (L : Ints mg intL) (f : Addr) (cdv : Value) (A : Around) (outer : List Env) (s : Shared) (H : Hp) (E : XK) (hr : Room 3 (A.deeper (envOfC "Trust.sealed" (defScope s_Trust_sealed) s.heap.objs.size f cdv))) :
    JSs (gd w K mg) (cxOf (L2.CX P w) P w K mg base ["self", "who", "name"] "Trust.sealed" (defScope s_Trust_sealed) f cdv A outer s H E) b_Trust_sealed (defBody s_Trust_sealed) :=
    (jss_cons (js_if (jt_not (jt_val (je_call (FnP.at (o_is_who T TB L) ⟨rfl, rfl, rfl, rfl, rfl⟩ rfl) (hr.mono (by first | decide | omega)) rfl (ja_cons (je_var 1) ja_nil)))) (jss_one (js_raise' (c := "BadWho") rfl (He.exc_ok (T.c.fact 33)) (T.cls.gm "BadWho" (by decide +kernel)) rfl rfl)) jss_nil)
    (jss_cons (js_if (jt_not (jt_val (je_meth rfl (T.cls.gm "Trust" (by decide +kernel)) (T.cls.ins "Trust" (by decide +kernel)).cl (MtP.at (o_Trust_is_name T TB L) ⟨rfl, rfl, rfl, rfl, rfl⟩ rfl) (hr.mono (by first | decide | omega)) (je_var 0) (ja_cons (je_var 2) ja_nil)))) (jss_one (js_raise' (c := "BadName") rfl (He.exc_ok (T.c.fact 32)) (T.cls.gm "BadName" (by decide +kernel)) rfl rfl)) jss_nil)
    (jss_one (js_ret (je_cmp (os_in rfl rfl (hu70 hr)) (je_tup (ja_cons (je_var 1) (ja_cons (je_var 2) ja_nil))) (je_fld rfl (T.cls.gm "Trust" (by decide +kernel)) (T.cls.ins "Trust" (by decide +kernel)).cl (He.noat_ok (T.c.fact 0)) (je_var 0)) (by first | exact nomark _ | rfl | with_unfolding_all rfl))))))
theorem o_Trust_sealed (T : Txt txt K mg h) (TB : ∀ p ∈ txt.cs K, TabB base mg p.1 p.2) (L : Ints mg intL) : MtP (gd w K mg) P base 4 (gaS K "Trust") "sealed" 3 f_Trust_sealed := by
  obtain ⟨fd, F⟩ := T.fun_ 22 (at_ := ("Trust", some "sealed")) (st := s_Trust_sealed)
  exact ⟨_, fd, ["self", "who", "name"], He.meth_ok (T.c.fact 41), F.binds (ps := ["self", "who", "name"]) fun _ _ _ _ _ _ us hl => match us, hl with | [_, _, _], _ => rfl, fn_ok (P := P) (G := gd w K mg) (k := 3) F sc_Trust_sealed rfl rfl (by decide) fun cdv A outer s H E hr => j_Trust_sealed T TB L _ cdv A outer s H E hr⟩
theorem sc_is_bank : FnScope ["value", "begin", "members", "lies", "amount"] ["value"] (defScope s_is_bank) := ⟨rfl, rfl, rfl, by decide +kernel, rfl, by decide +kernel, by decide +kernel⟩
theorem j_is_bank (T : Txt txt K mg h) (TB : ∀ p ∈ txt.cs K, TabB base mg p.1 p.2) (L : Ints mg intL) (f : Addr) (cdv : Value) (A : Around) (outer : List Env) (s : Shared) (H : Hp) (E : XK) (hr : Room 1 (A.deeper (envOfC "is_bank" (defScope s_is_bank) s.heap.objs.size f cdv))) :
    JSs (gd w K mg) (cxOf (L2.CX P w) P w K mg base ["value", "begin", "members", "lies", "amount"] "is_bank" (defScope s_is_bank) f cdv A outer s H E) b_is_bank (defBody s_is_bank) :=
    (jss_cons (js_if (jt_pw (jw_or (jt_not (jt_val (je_isiB rfl (isiB_ok rfl T.cls (by decide)) rfl (T.free 5) rfl (T.free 11) boot_tuple (je_var 0)))) (jw_or1 (jt_cmp (os_ne rfl hr.units) (je_callB (cs_len rfl) rfl (T.free 10) boot_len (ja_cons (je_var 0) ja_nil)) je_int)))) (jss_one (js_ret je_bool)) jss_nil)
    (jss_cons (js_asg (je_var 0) (jg_tup rfl rfl (jgs_cons (jg_name sc_is_bank.nd rfl (by first | exact Or.inl rfl | exact Or.inr rfl)) (jgs_cons (jg_name sc_is_bank.nd rfl (by first | exact Or.inl rfl | exact Or.inr rfl)) (jgs_cons (jg_name sc_is_bank.nd rfl (by first | exact Or.inl rfl | exact Or.inr rfl)) jgs_nil)))))
    (jss_cons (js_if (jt_pw (jw_or (jt_not (jt_val (je_isiB rfl (isiB_ok rfl T.cls (by decide)) rfl (T.free 5) rfl (T.free 11) boot_tuple (je_var 1)))) (jw_or1 (jt_not (jt_chain (os_le rfl (hu70 hr)) (os_le rfl (hu70 hr)) je_int (je_callB (cs_len rfl) rfl (T.free 10) boot_len (ja_cons (je_var 1) ja_nil)) (je_globI' rfl (He.int_ok T.X T.G (T.c.fact 44)))))))) (jss_one (js_ret je_bool)) jss_nil)
    (jss_cons (js_if (jt_pw (jw_or (jt_not (jt_val (je_callB (cs_all rfl rfl) rfl (T.free 17) boot_all (ja_cons (je_comp (own := [("amount", 4)]) rfl sc_is_bank.nd (ji_seq rfl (je_var 1)) (blkOk_by (own := [("amount", 4)]) (by rfl)) (by decide) (jgb_name sc_is_bank.nd rfl (fun _ _ _ _ _ => (by first | exact Or.inl rfl | exact Or.inr rfl)) (fun _ _ _ _ _ => by first | exact Or.inr rfl | exact Or.inl rfl)) (fun _ _ _ _ _ => jts_nil) (fun _ _ _ _ _ => (je_call (FnP.at (o_is_number T TB L) ⟨rfl, rfl, rfl, rfl, rfl⟩ rfl) (hr.mono (by first | decide | omega)) rfl (ja_cons (je_var 4) (ja_cons je_int ja_nil))))) ja_nil)))) (jw_or1 (jt_cmp (os_ge rfl (hu70 hr)) (je_callB (cs_sum rfl rfl) rfl (T.free 43) boot_sum (ja_cons (je_var 1) ja_nil)) (je_globI' rfl (L ("MOST_NUMBER", 1000000000000000000) (by simp [intL]))))))) (jss_one (js_ret je_bool)) jss_nil)
    (jss_one (js_ret (je_and (je_call (FnP.at (o_is_number T TB L) ⟨rfl, rfl, rfl, rfl, rfl⟩ rfl) (hr.mono (by first | decide | omega)) rfl (ja_cons (je_var 2) (ja_cons je_int ja_nil))) (je_and (je_call (FnP.at (o_is_number T TB L) ⟨rfl, rfl, rfl, rfl, rfl⟩ rfl) (hr.mono (by first | decide | omega)) rfl (ja_cons (je_var 3) (ja_cons je_int ja_nil))) (je_one (je_chain (os_le rfl (hu70 hr)) (os_le rfl (hu70 hr)) (je_op (os_add rfl) (je_op (os_mul rfl) je_int (je_var 3)) je_int) (je_var 2) (je_globI' rfl (He.int_ok T.X T.G (T.c.fact 42)))))))))))))
theorem o_is_bank (T : Txt txt K mg h) (TB : ∀ p ∈ txt.cs K, TabB base mg p.1 p.2) (L : Ints mg intL) : FnP (gd w K mg) P base 2 "is_bank" 1 f_is_bank := by
  obtain ⟨fd, F⟩ := T.fun_ 23 (at_ := ("is_bank", none)) (st := s_is_bank)
  exact ⟨_, fd, ["value"], (T.glo 45), F.kp, F.binds (ps := ["value"]) fun _ _ _ _ _ _ us hl => match us, hl with | [_], _ => rfl, fn_ok (P := P) (G := gd w K mg) (k := 1) F sc_is_bank rfl rfl (by decide) fun cdv A outer s H E hr => j_is_bank T TB L _ cdv A outer s H E hr⟩
theorem sc_need_bank : FnScope ["bank"] ["bank"] (defScope s_need_bank) := ⟨rfl, rfl, rfl, by decide +kernel, rfl, by decide +kernel, by decide +kernel⟩
theorem j_need_bank (T : Txt txt K mg h) (TB : ∀ p ∈ txt.cs K, TabB base mg p.1 p.2) (L : Ints mg intL) (f : Addr) (cdv : Value) (A : Around) (outer : List Env) (s : Shared) (H : Hp) (E : XK) (hr : Room 2 (A.deeper (envOfC "need_bank" (defScope s_need_bank) s.heap.objs.size f cdv))) :
    JSs (gd w K mg) (cxOf (L2.CX P w) P w K mg base ["bank"] "need_bank" (defScope s_need_bank) f cdv A outer s H E) b_need_bank (defBody s_need_bank) :=
    (jss_one (js_if (jt_not (jt_val (je_call (FnP.at (o_is_bank T TB L) ⟨rfl, rfl, rfl, rfl, rfl⟩ rfl) (hr.mono (by first | decide | omega)) rfl (ja_cons (je_var 0) ja_nil)))) (jss_one (js_raise' (c := "BadBank") rfl (He.exc_ok (T.c.fact 46)) (T.cls.gm "BadBank" (by decide +kernel)) rfl rfl)) jss_nil))
theorem o_need_bank (T : Txt txt K mg h) (TB : ∀ p ∈ txt.cs K, TabB base mg p.1 p.2) (L : Ints mg intL) : FnP (gd w K mg) P base 3 "need_bank" 1 f_need_bank := by
  obtain ⟨fd, F⟩ := T.fun_ 24 (at_ := ("need_bank", none)) (st := s_need_bank)
  exact ⟨_, fd, ["bank"], (T.glo 47), F.kp, F.binds (ps := ["bank"]) fun _ _ _ _ _ _ us hl => match us, hl with | [_], _ => rfl, fn_ok (P := P) (G := gd w K mg) (k := 2) F sc_need_bank rfl rfl (by decide) fun cdv A outer s H E hr => j_need_bank T TB L _ cdv A outer s H E hr⟩
theorem sc_are_owners : FnScope ["value", "many", "item", "one", "other"] ["value", "many"] (defScope s_are_owners) := ⟨rfl, rfl, rfl, by decide +kernel, rfl, by decide +kernel, by decide +kernel⟩
theorem j_are_owners (T : Txt txt K mg h) (TB : ∀ p ∈ txt.cs K, TabB base mg p.1 p.2) (L : Ints mg intL) (f : Addr) (cdv : Value) (A : Around) (outer : List Env) (s : Shared) (H : Hp) (E : XK) (hr : Room 1 (A.deeper (envOfC "are_owners" (defScope s_are_owners) s.heap.objs.size f cdv))) :
    JSs (gd w K mg) (cxOf (L2.CX P w) P w K mg base ["value", "many", "item", "one", "other"] "are_owners" (defScope s_are_owners) f cdv A outer s H E) b_are_owners (defBody s_are_owners) :=
    (jss_cons (js_if (jt_pw (jw_or (jt_not (jt_val (je_isiB rfl (isiB_ok rfl T.cls (by decide)) rfl (T.free 5) rfl (T.free 11) boot_tuple (je_var 0)))) (jw_or1 (jt_not (jt_val (je_callB (cs_all rfl rfl) rfl (T.free 17) boot_all (ja_cons (je_comp (own := [("item", 2)]) rfl sc_are_owners.nd (ji_seq rfl (je_var 0)) (blkOk_by (own := [("item", 2)]) (by rfl)) (by decide) (jgb_name sc_are_owners.nd rfl (fun _ _ _ _ _ => (by first | exact Or.inl rfl | exact Or.inr rfl)) (fun _ _ _ _ _ => by first | exact Or.inr rfl | exact Or.inl rfl)) (fun _ _ _ _ _ => jts_nil) (fun _ _ _ _ _ => (je_and (je_call (FnP.at (o_is_number T TB L) ⟨rfl, rfl, rfl, rfl, rfl⟩ rfl) (hr.mono (by first | decide | omega)) rfl (ja_cons (je_var 2) (ja_cons je_int ja_nil))) (je_one (je_cmp (os_lt rfl (hu70 hr)) (je_var 2) (je_var 1)))))) ja_nil))))))) (jss_one (js_ret je_bool)) jss_nil)
    (jss_one (js_ret (je_callB (cs_all rfl rfl) rfl (T.free 17) boot_all (ja_cons (je_comp (own := [("one", 3), ("other", 4)]) rfl sc_are_owners.nd (ji_zip rfl rfl (T.free 48) (je_var 0) (je_slice rfl (je_var 0) (jo_some je_int) jo_none)) (blkOk_by (own := [("one", 3), ("other", 4)]) (by rfl)) (by decide) (jgb_tup rfl rfl (jgsb_cons (jgb_name sc_are_owners.nd rfl (fun _ _ _ _ _ => (by first | exact Or.inl rfl | exact Or.inr rfl)) (fun _ _ _ _ _ => by first | exact Or.inr rfl | exact Or.inl rfl)) (jgsb_cons (jgb_name sc_are_owners.nd rfl (fun _ _ _ _ _ => (by first | exact Or.inl rfl | exact Or.inr rfl)) (fun _ _ _ _ _ => by first | exact Or.inr rfl | exact Or.inl rfl)) jgsb_nil))) (fun _ _ _ _ _ => jts_nil) (fun _ _ _ _ _ => (je_cmp (os_lt rfl (hu70 hr)) (je_var 3) (je_var 4)))) ja_nil)))))
theorem o_are_owners (T : Txt txt K mg h) (TB : ∀ p ∈ txt.cs K, TabB base mg p.1 p.2) (L : Ints mg intL) : FnP (gd w K mg) P base 2 "are_owners" 2 f_are_owners := by
  obtain ⟨fd, F⟩ := T.fun_ 25 (at_ := ("are_owners", none)) (st := s_are_owners)
  exact ⟨_, fd, ["value", "many"], (T.glo 49), F.kp, F.binds (ps := ["value", "many"]) fun _ _ _ _ _ _ us hl => match us, hl with | [_, _], _ => rfl, fn_ok (P := P) (G := gd w K mg) (k := 1) F sc_are_owners rfl rfl (by decide) fun cdv A outer s H E hr => j_are_owners T TB L _ cdv A outer s H E hr⟩
theorem sc_is_charter : FnScope ["value", "many", "proposers", "lots", "lot", "one", "other"] ["value"] (defScope s_is_charter) := ⟨rfl, rfl, rfl, by decide +kernel, rfl, by decide +kernel, by decide +kernel⟩
theorem j_is_charter (T : Txt txt K mg h) (TB : ∀ p ∈ txt.cs K, TabB base mg p.1 p.2) (L : Ints mg intL) (f : Addr) (cdv : Value) (A : Around) (outer : List Env) (s : Shared) (H : Hp) (E : XK) (hr : Room 2 (A.deeper (envOfC "is_charter" (defScope s_is_charter) s.heap.objs.size f cdv))) :
    JSs (gd w K mg) (cxOf (L2.CX P w) P w K mg base ["value", "many", "proposers", "lots", "lot", "one", "other"] "is_charter" (defScope s_is_charter) f cdv A outer s H E) b_is_charter (defBody s_is_charter) :=
    (jss_cons (js_if (jt_pw (jw_or (jt_not (jt_val (je_isiB rfl (isiB_ok rfl T.cls (by decide)) rfl (T.free 5) rfl (T.free 11) boot_tuple (je_var 0)))) (jw_or1 (jt_cmp (os_ne rfl hr.units) (je_callB (cs_len rfl) rfl (T.free 10) boot_len (ja_cons (je_var 0) ja_nil)) je_int)))) (jss_one (js_ret je_bool)) jss_nil)
    (jss_cons (js_asg (je_var 0) (jg_tup rfl rfl (jgs_cons (jg_name sc_is_charter.nd rfl (by first | exact Or.inl rfl | exact Or.inr rfl)) (jgs_cons (jg_name sc_is_charter.nd rfl (by first | exact Or.inl rfl | exact Or.inr rfl)) (jgs_cons (jg_name sc_is_charter.nd rfl (by first | exact Or.inl rfl | exact Or.inr rfl)) jgs_nil)))))
    (jss_cons (js_if (jt_pw (jw_or (jt_not (jt_val (je_call (FnP.at (o_is_number T TB L) ⟨rfl, rfl, rfl, rfl, rfl⟩ rfl) (hr.mono (by first | decide | omega)) rfl (ja_cons (je_var 1) (ja_cons je_int ja_nil))))) (jw_or (jt_cmp (os_gt rfl (hu70 hr)) (je_var 1) (je_globI' rfl (He.int_ok T.X T.G (T.c.fact 50)))) (jw_or (jt_not (jt_val (je_call (FnP.at (o_are_owners T TB L) ⟨rfl, rfl, rfl, rfl, rfl⟩ rfl) (hr.mono (by first | decide | omega)) rfl (ja_cons (je_var 2) (ja_cons (je_var 1) ja_nil))))) (jw_or1 (jt_cmp (os_eq rfl hr.units) (je_var 2) (je_tup ja_nil))))))) (jss_one (js_ret je_bool)) jss_nil)
    (jss_cons (js_if (jt_pw (jw_or (jt_not (jt_val (je_isiB rfl (isiB_ok rfl T.cls (by decide)) rfl (T.free 5) rfl (T.free 11) boot_tuple (je_var 3)))) (jw_or (jt_cmp (os_eq rfl hr.units) (je_var 3) (je_tup ja_nil)) (jw_or1 (jt_not (jt_val (je_callB (cs_all rfl rfl) rfl (T.free 17) boot_all (ja_cons (je_comp (own := [("lot", 4)]) rfl sc_is_charter.nd (ji_seq rfl (je_var 3)) (blkOk_by (own := [("lot", 4)]) (by rfl)) (by decide) (jgb_name sc_is_charter.nd rfl (fun _ _ _ _ _ => (by first | exact Or.inl rfl | exact Or.inr rfl)) (fun _ _ _ _ _ => by first | exact Or.inr rfl | exact Or.inl rfl)) (fun _ _ _ _ _ => jts_nil) (fun _ _ _ _ _ => (je_and (je_call (FnP.at (o_are_owners T TB L) ⟨rfl, rfl, rfl, rfl, rfl⟩ rfl) (hr.mono (by first | decide | omega)) rfl (ja_cons (je_var 4) (ja_cons (je_var 1) ja_nil))) (je_one (je_cmp (os_ne rfl hr.units) (je_var 4) (je_tup ja_nil)))))) ja_nil)))))))) (jss_one (js_ret je_bool)) jss_nil)
    (jss_cons (js_if (jt_not (jt_val (je_callB (cs_all rfl rfl) rfl (T.free 17) boot_all (ja_cons (je_comp (own := [("one", 5), ("other", 6)]) rfl sc_is_charter.nd (ji_zip rfl rfl (T.free 48) (je_var 3) (je_slice rfl (je_var 3) (jo_some je_int) jo_none)) (blkOk_by (own := [("one", 5), ("other", 6)]) (by rfl)) (by decide) (jgb_tup rfl rfl (jgsb_cons (jgb_name sc_is_charter.nd rfl (fun _ _ _ _ _ => (by first | exact Or.inl rfl | exact Or.inr rfl)) (fun _ _ _ _ _ => by first | exact Or.inr rfl | exact Or.inl rfl)) (jgsb_cons (jgb_name sc_is_charter.nd rfl (fun _ _ _ _ _ => (by first | exact Or.inl rfl | exact Or.inr rfl)) (fun _ _ _ _ _ => by first | exact Or.inr rfl | exact Or.inl rfl)) jgsb_nil))) (fun _ _ _ _ _ => jts_nil) (fun _ _ _ _ _ => (je_cmp (os_lt rfl (hu70 hr)) (je_var 5) (je_var 6)))) ja_nil)))) (jss_one (js_ret je_bool)) jss_nil)
    (jss_one (js_ret (je_not (je_callB (cs_any rfl rfl) rfl (T.free 37) boot_any (ja_cons (je_comp2 (own := [("one", 5), ("other", 6)]) (own1 := [6]) rfl sc_is_charter.nd (ji_seq rfl (je_var 3)) (blkOk_by (own := [("one", 5), ("other", 6)]) (by rfl)) (by decide) (by decide) (by decide) (jgb_name sc_is_charter.nd rfl (fun _ _ _ _ _ => (by first | exact Or.inl rfl | exact Or.inr rfl)) (fun _ _ _ _ _ => by first | exact Or.inr rfl | exact Or.inl rfl)) (jgb_name sc_is_charter.nd rfl (fun _ _ _ _ _ => (by first | exact Or.inl rfl | exact Or.inr rfl)) (fun _ _ _ _ _ => by first | exact Or.inr rfl | exact Or.inl rfl)) (fun _ _ _ _ _ => jts_nil) (fun _ _ _ _ _ => (ji_seq rfl (je_var 3))) (fun _ _ _ _ _ => jts_nil) (fun _ _ _ _ _ => (je_and (je_cmp (os_ne rfl hr.units) (je_var 5) (je_var 6)) (je_one (je_call (FnP.at (o_all_within T TB L) ⟨rfl, rfl, rfl, rfl, rfl⟩ rfl) (hr.mono (by first | decide | omega)) rfl (ja_cons (je_var 5) (ja_cons (je_var 6) ja_nil))))))) ja_nil))))))))))
theorem o_is_charter (T : Txt txt K mg h) (TB : ∀ p ∈ txt.cs K, TabB base mg p.1 p.2) (L : Ints mg intL) : FnP (gd w K mg) P base 3 "is_charter" 1 f_is_charter := by
  obtain ⟨fd, F⟩ := T.fun_ 26 (at_ := ("is_charter", none)) (st := s_is_charter)
  exact ⟨_, fd, ["value"], (T.glo 51), F.kp, F.binds (ps := ["value"]) fun _ _ _ _ _ _ us hl => match us, hl with | [_], _ => rfl, fn_ok (P := P) (G := gd w K mg) (k := 2) F sc_is_charter rfl rfl (by decide) fun cdv A outer s H E hr => j_is_charter T TB L _ cdv A outer s H E hr⟩
theorem sc_need_charter : FnScope ["charter"] ["charter"] (defScope s_need_charter) := ⟨rfl, rfl, rfl, by decide +kernel, rfl, by decide +kernel, by decide +kernel⟩
theorem j_need_charter (T : Txt txt K mg h) (TB : ∀ p ∈ txt.cs K, TabB base mg p.1 p.2) (L : Ints mg intL) (f : Addr) (cdv : Value) (A : Around) (outer : List Env) (s : Shared) (H : Hp) (E : XK) (hr : Room 3 (A.deeper (envOfC "need_charter" (defScope s_need_charter) s.heap.objs.size f cdv))) :
    JSs (gd w K mg) (cxOf (L2.CX P w) P w K mg base ["charter"] "need_charter" (defScope s_need_charter) f cdv A outer s H E) b_need_charter (defBody s_need_charter) :=
    (jss_one (js_if (jt_not (jt_val (je_call (FnP.at (o_is_charter T TB L) ⟨rfl, rfl, rfl, rfl, rfl⟩ rfl) (hr.mono (by first | decide | omega)) rfl (ja_cons (je_var 0) ja_nil)))) (jss_one (js_raise' (c := "BadCharter") rfl (He.exc_ok (T.c.fact 52)) (T.cls.gm "BadCharter" (by decide +kernel)) rfl rfl)) jss_nil))
theorem o_need_charter (T : Txt txt K mg h) (TB : ∀ p ∈ txt.cs K, TabB base mg p.1 p.2) (L : Ints mg intL) : FnP (gd w K mg) P base 4 "need_charter" 1 f_need_charter := by
  obtain ⟨fd, F⟩ := T.fun_ 27 (at_ := ("need_charter", none)) (st := s_need_charter)
  exact ⟨_, fd, ["charter"], (T.glo 53), F.kp, F.binds (ps := ["charter"]) fun _ _ _ _ _ _ us hl => match us, hl with | [_], _ => rfl, fn_ok (P := P) (G := gd w K mg) (k := 3) F sc_need_charter rfl rfl (by decide) fun cdv A outer s H E hr => j_need_charter T TB L _ cdv A outer s H E hr⟩
theorem sc_need_trust : FnScope ["trust"] ["trust"] (defScope s_need_trust) := ⟨rfl, rfl, rfl, by decide +kernel, rfl, by decide +kernel, by decide +kernel⟩
theorem j_need_trust (T : Txt txt K mg h) (TB : ∀ p ∈ txt.cs K, TabB base mg p.1 p.2) (L : Ints mg intL) (f : Addr) (cdv : Value) (A : Around) (outer : List Env) (s : Shared) (H : Hp) (E : XK) (hr : Room 0 (A.deeper (envOfC "need_trust" (defScope s_need_trust) s.heap.objs.size f cdv))) :
    JSs (gd w K mg) (cxOf (L2.CX P w) P w K mg base ["trust"] "need_trust" (defScope s_need_trust) f cdv A outer s H E) b_need_trust (defBody s_need_trust) :=
    (jss_one (js_if (jt_not (jt_val (je_isiC rfl (isiC_ok rfl T.cls (by decide +kernel)) rfl (T.free 5) rfl (T.cls.gm "Trust" (by decide +kernel)) (je_var 0)))) (jss_one (js_raise' (c := "BadTrust") rfl (He.exc_ok (T.c.fact 54)) (T.cls.gm "BadTrust" (by decide +kernel)) rfl rfl)) jss_nil))
theorem o_need_trust (T : Txt txt K mg h) (TB : ∀ p ∈ txt.cs K, TabB base mg p.1 p.2) (L : Ints mg intL) : FnP (gd w K mg) P base 1 "need_trust" 1 f_need_trust := by
  obtain ⟨fd, F⟩ := T.fun_ 28 (at_ := ("need_trust", none)) (st := s_need_trust)
  exact ⟨_, fd, ["trust"], (T.glo 55), F.kp, F.binds (ps := ["trust"]) fun _ _ _ _ _ _ us hl => match us, hl with | [_], _ => rfl, fn_ok (P := P) (G := gd w K mg) (k := 0) F sc_need_trust rfl rfl (by decide) fun cdv A outer s H E hr => j_need_trust T TB L _ cdv A outer s H E hr⟩
theorem sc_outer_form : FnScope ["trust", "bank", "name", "content", "purse", "number", "to", "amount", "causes", "many", "cause"] ["trust", "bank", "name"] (defScope s_outer_form) := ⟨rfl, rfl, rfl, by decide +kernel, rfl, by decide +kernel, by decide +kernel⟩
theorem j_outer_form (T : Txt txt K mg h) (TB : ∀ p ∈ txt.cs K, TabB base mg p.1 p.2) (L : Ints mg intL) (f : Addr) (cdv : Value) (A : Around) (outer : List Env) (s : Shared) (H : Hp) (E : XK) (hr : Room 4 (A.deeper (envOfC "outer_form" (defScope s_outer_form) s.heap.objs.size f cdv))) :
    JSs (gd w K mg) (cxOf (L2.CX P w) P w K mg base ["trust", "bank", "name", "content", "purse", "number", "to", "amount", "causes", "many", "cause"] "outer_form" (defScope s_outer_form) f cdv A outer s H E) b_outer_form (defBody s_outer_form) :=
    (jss_cons (js_if (jt_not (jt_val (je_meth rfl (T.cls.gm "Trust" (by decide +kernel)) (T.cls.ins "Trust" (by decide +kernel)).cl (MtP.at (o_Trust_is_name T TB L) ⟨rfl, rfl, rfl, rfl, rfl⟩ rfl) (hr.mono (by first | decide | omega)) (je_var 0) (ja_cons (je_var 2) ja_nil)))) (jss_one (js_ret je_bool)) jss_nil)
    (jss_cons (js_set (i := 3) sc_outer_form.nd rfl (by first | exact Or.inl rfl | exact Or.inr rfl) (je_meth rfl (T.cls.gm "Trust" (by decide +kernel)) (T.cls.ins "Trust" (by decide +kernel)).cl (MtP.at (o_Trust_content T TB L) ⟨rfl, rfl, rfl, rfl, rfl⟩ rfl) (hr.mono (by first | decide | omega)) (je_var 0) (ja_cons (je_var 2) ja_nil)))
    (jss_cons (js_if (jt_pw (jw_or (jt_not (jt_val (je_isiB rfl (isiB_ok rfl T.cls (by decide)) rfl (T.free 5) rfl (T.free 11) boot_tuple (je_var 3)))) (jw_or (jt_cmp (os_ne rfl hr.units) (je_callB (cs_len rfl) rfl (T.free 10) boot_len (ja_cons (je_var 3) ja_nil)) je_int) (jw_or (jt_not (jt_val (je_isiB rfl (isiB_ok rfl T.cls (by decide)) rfl (T.free 5) rfl (T.free 9) boot_str (je_sub rfl rfl (hu70 hr) (je_var 3) je_int)))) (jw_or1 (jt_cmp (os_ne rfl hr.units) (je_sub rfl rfl (hu70 hr) (je_var 3) je_int) je_str)))))) (jss_one (js_ret je_bool)) jss_nil)
    (jss_cons (js_asg (je_slice rfl (je_var 3) (jo_some je_int) jo_none) (jg_tup rfl rfl (jgs_cons (jg_name sc_outer_form.nd rfl (by first | exact Or.inl rfl | exact Or.inr rfl)) (jgs_cons (jg_name sc_outer_form.nd rfl (by first | exact Or.inl rfl | exact Or.inr rfl)) (jgs_cons (jg_name sc_outer_form.nd rfl (by first | exact Or.inl rfl | exact Or.inr rfl)) (jgs_cons (jg_name sc_outer_form.nd rfl (by first | exact Or.inl rfl | exact Or.inr rfl)) (jgs_cons (jg_name sc_outer_form.nd rfl (by first | exact Or.inl rfl | exact Or.inr rfl)) jgs_nil)))))))
    (jss_cons (js_set (i := 9) sc_outer_form.nd rfl (by first | exact Or.inl rfl | exact Or.inr rfl) (je_callB (cs_len rfl) rfl (T.free 10) boot_len (ja_cons (je_sub rfl rfl (hu70 hr) (je_var 1) je_int) ja_nil)))
    (jss_cons (js_if (jt_pw (jw_or (jt_not (jt_val (je_call (FnP.at (o_is_number T TB L) ⟨rfl, rfl, rfl, rfl, rfl⟩ rfl) (hr.mono (by first | decide | omega)) rfl (ja_cons (je_var 4) (ja_cons je_int ja_nil))))) (jw_or (jt_not (jt_val (je_call (FnP.at (o_is_number T TB L) ⟨rfl, rfl, rfl, rfl, rfl⟩ rfl) (hr.mono (by first | decide | omega)) rfl (ja_cons (je_var 6) (ja_cons je_int ja_nil))))) (jw_or (jt_cmp (os_ge rfl (hu70 hr)) (je_var 4) (je_var 9)) (jw_or1 (jt_cmp (os_ge rfl (hu70 hr)) (je_var 6) (je_var 9))))))) (jss_one (js_ret je_bool)) jss_nil)
    (jss_cons (js_if (jt_pw (jw_or (jt_not (jt_val (je_call (FnP.at (o_is_number T TB L) ⟨rfl, rfl, rfl, rfl, rfl⟩ rfl) (hr.mono (by first | decide | omega)) rfl (ja_cons (je_var 5) (ja_cons je_int ja_nil))))) (jw_or (jt_not (jt_val (je_call (FnP.at (o_is_number T TB L) ⟨rfl, rfl, rfl, rfl, rfl⟩ rfl) (hr.mono (by first | decide | omega)) rfl (ja_cons (je_var 7) (ja_cons je_int ja_nil))))) (jw_or (jt_not (jt_val (je_isiB rfl (isiB_ok rfl T.cls (by decide)) rfl (T.free 5) rfl (T.free 11) boot_tuple (je_var 8)))) (jw_or1 (jt_cmp (os_ne rfl hr.units) (je_callB (cs_len rfl) rfl (T.free 10) boot_len (ja_cons (je_var 8) ja_nil)) (je_var 9))))))) (jss_one (js_ret je_bool)) jss_nil)
    (jss_one (js_ret (je_callB (cs_all rfl rfl) rfl (T.free 17) boot_all (ja_cons (je_comp (own := [("cause", 10)]) rfl sc_outer_form.nd (ji_seq rfl (je_var 8)) (blkOk_by (own := [("cause", 10)]) (by rfl)) (by decide) (jgb_name sc_outer_form.nd rfl (fun _ _ _ _ _ => (by first | exact Or.inl rfl | exact Or.inr rfl)) (fun _ _ _ _ _ => by first | exact Or.inr rfl | exact Or.inl rfl)) (fun _ _ _ _ _ => jts_nil) (fun _ _ _ _ _ => (je_or (je_cmp os_is (je_var 10) je_none) (je_one (je_meth rfl (T.cls.gm "Trust" (by decide +kernel)) (T.cls.ins "Trust" (by decide +kernel)).cl (MtP.at (o_Trust_is_name T TB L) ⟨rfl, rfl, rfl, rfl, rfl⟩ rfl) (hr.mono (by first | decide | omega)) (je_var 0) (ja_cons (je_var 10) ja_nil)))))) ja_nil)))))))))))
theorem o_outer_form (T : Txt txt K mg h) (TB : ∀ p ∈ txt.cs K, TabB base mg p.1 p.2) (L : Ints mg intL) : FnP (gd w K mg) P base 5 "outer_form" 3 f_outer_form := by
  obtain ⟨fd, F⟩ := T.fun_ 29 (at_ := ("outer_form", none)) (st := s_outer_form)
  exact ⟨_, fd, ["trust", "bank", "name"], (T.glo 56), F.kp, F.binds (ps := ["trust", "bank", "name"]) fun _ _ _ _ _ _ us hl => match us, hl with | [_, _, _], _ => rfl, fn_ok (P := P) (G := gd w K mg) (k := 4) F sc_outer_form rfl rfl (by decide) fun cdv A outer s H E hr => j_outer_form T TB L _ cdv A outer s H E hr⟩
theorem sc_need_purse : FnScope ["bank", "purse"] ["bank", "purse"] (defScope s_need_purse) := ⟨rfl, rfl, rfl, by decide +kernel, rfl, by decide +kernel, by decide +kernel⟩
theorem j_need_purse (T : Txt txt K mg h) (TB : ∀ p ∈ txt.cs K, TabB base mg p.1 p.2) (L : Ints mg intL) (f : Addr) (cdv : Value) (A : Around) (outer : List Env) (s : Shared) (H : Hp) (E : XK) (hr : Room 1 (A.deeper (envOfC "need_purse" (defScope s_need_purse) s.heap.objs.size f cdv))) :
    JSs (gd w K mg) (cxOf (L2.CX P w) P w K mg base ["bank", "purse"] "need_purse" (defScope s_need_purse) f cdv A outer s H E) b_need_purse (defBody s_need_purse) :=
    (jss_one (js_if (jt_pw (jw_or (jt_not (jt_val (je_call (FnP.at (o_is_number T TB L) ⟨rfl, rfl, rfl, rfl, rfl⟩ rfl) (hr.mono (by first | decide | omega)) rfl (ja_cons (je_var 1) (ja_cons je_int ja_nil))))) (jw_or1 (jt_cmp (os_ge rfl (hu70 hr)) (je_var 1) (je_callB (cs_len rfl) rfl (T.free 10) boot_len (ja_cons (je_sub rfl rfl (hu70 hr) (je_var 0) je_int) ja_nil)))))) (jss_one (js_raise' (c := "BadPurse") rfl (He.exc_ok (T.c.fact 57)) (T.cls.gm "BadPurse" (by decide +kernel)) rfl rfl)) jss_nil))
theorem o_need_purse (T : Txt txt K mg h) (TB : ∀ p ∈ txt.cs K, TabB base mg p.1 p.2) (L : Ints mg intL) : FnP (gd w K mg) P base 2 "need_purse" 2 f_need_purse := by
  obtain ⟨fd, F⟩ := T.fun_ 30 (at_ := ("need_purse", none)) (st := s_need_purse)
  exact ⟨_, fd, ["bank", "purse"], (T.glo 58), F.kp, F.binds (ps := ["bank", "purse"]) fun _ _ _ _ _ _ us hl => match us, hl with | [_, _], _ => rfl, fn_ok (P := P) (G := gd w K mg) (k := 1) F sc_need_purse rfl rfl (by decide) fun cdv A outer s H E hr => j_need_purse T TB L _ cdv A outer s H E hr⟩
theorem sc_owner_of : FnScope ["bank", "purse", "owner"] ["bank", "purse", "owner"] (defScope s_owner_of) := ⟨rfl, rfl, rfl, by decide +kernel, rfl, by decide +kernel, by decide +kernel⟩
theorem j_owner_of (T : Txt txt K mg h) (TB : ∀ p ∈ txt.cs K, TabB base mg p.1 p.2) (L : Ints mg intL) (f : Addr) (cdv : Value) (A : Around) (outer : List Env) (s : Shared) (H : Hp) (E : XK) (hr : Room 3 (A.deeper (envOfC "owner_of" (defScope s_owner_of) s.heap.objs.size f cdv))) :
    JSs (gd w K mg) (cxOf (L2.CX P w) P w K mg base ["bank", "purse", "owner"] "owner_of" (defScope s_owner_of) f cdv A outer s H E) b_owner_of (defBody s_owner_of) :=
    (jss_cons (js_expr (je_call (FnP.at (o_need_bank T TB L) ⟨rfl, rfl, rfl, rfl, rfl⟩ rfl) (hr.mono (by first | decide | omega)) rfl (ja_cons (je_var 0) ja_nil)))
    (jss_cons (js_expr (je_call (FnP.at (o_need_purse T TB L) ⟨rfl, rfl, rfl, rfl, rfl⟩ rfl) (hr.mono (by first | decide | omega)) rfl (ja_cons (je_var 0) (ja_cons (je_var 1) ja_nil))))
    (jss_cons (js_if (jt_pw (jw_or (jt_not (jt_val (je_call (FnP.at (o_is_number T TB L) ⟨rfl, rfl, rfl, rfl, rfl⟩ rfl) (hr.mono (by first | decide | omega)) rfl (ja_cons (je_var 2) (ja_cons je_int ja_nil))))) (jw_or1 (jt_cmp (os_ge rfl (hu70 hr)) (je_var 2) (je_globI' rfl (He.int_ok T.X T.G (T.c.fact 50))))))) (jss_one (js_raise' (c := "BadOwner") rfl (He.exc_ok (T.c.fact 59)) (T.cls.gm "BadOwner" (by decide +kernel)) rfl rfl)) jss_nil)
    (jss_one (js_ret (je_tup (ja_cons je_str (ja_cons (je_op (os_add rfl) (je_var 1) (je_op (os_mul rfl) (je_var 2) (je_callB (cs_len rfl) rfl (T.free 10) boot_len (ja_cons (je_sub rfl rfl (hu70 hr) (je_var 0) je_int) ja_nil)))) ja_nil))))))))
theorem o_owner_of (T : Txt txt K mg h) (TB : ∀ p ∈ txt.cs K, TabB base mg p.1 p.2) (L : Ints mg intL) : FnP (gd w K mg) P base 4 "owner_of" 3 f_owner_of := by
  obtain ⟨fd, F⟩ := T.fun_ 31 (at_ := ("owner_of", none)) (st := s_owner_of)
  exact ⟨_, fd, ["bank", "purse", "owner"], (T.glo 60), F.kp, F.binds (ps := ["bank", "purse", "owner"]) fun _ _ _ _ _ _ us hl => match us, hl with | [_, _, _], _ => rfl, fn_ok (P := P) (G := gd w K mg) (k := 3) F sc_owner_of rfl rfl (by decide) fun cdv A outer s H E hr => j_owner_of T TB L _ cdv A outer s H E hr⟩
theorem sc_signed_by : FnScope ["trust", "bank", "charter", "payment", "purse", "found", "owner"] ["trust", "bank", "charter", "payment"] (defScope s_signed_by) := ⟨rfl, rfl, rfl, by decide +kernel, rfl, by decide +kernel, by decide +kernel⟩
theorem j_signed_by (T : Txt txt K mg h) (TB : ∀ p ∈ txt.cs K, TabB base mg p.1 p.2) (L : Ints mg intL) (f : Addr) (cdv : Value) (A : Around) (outer : List Env) (s : Shared) (H : Hp) (E : XK) (hr : Room 5 (A.deeper (envOfC "signed_by" (defScope s_signed_by) s.heap.objs.size f cdv))) :
    JSs (gd w K mg) (cxOf (L2.CX P w) P w K mg base ["trust", "bank", "charter", "payment", "purse", "found", "owner"] "signed_by" (defScope s_signed_by) f cdv A outer s H E) b_signed_by (defBody s_signed_by) :=
    (jss_cons (js_expr (je_call (FnP.at (o_need_trust T TB L) ⟨rfl, rfl, rfl, rfl, rfl⟩ rfl) (hr.mono (by first | decide | omega)) rfl (ja_cons (je_var 0) ja_nil)))
    (jss_cons (js_expr (je_call (FnP.at (o_need_bank T TB L) ⟨rfl, rfl, rfl, rfl, rfl⟩ rfl) (hr.mono (by first | decide | omega)) rfl (ja_cons (je_var 1) ja_nil)))
    (jss_cons (js_expr (je_call (FnP.at (o_need_charter T TB L) ⟨rfl, rfl, rfl, rfl, rfl⟩ rfl) (hr.mono (by first | decide | omega)) rfl (ja_cons (je_var 2) ja_nil)))
    (jss_cons (js_if (jt_not (jt_val (je_call (FnP.at (o_outer_form T TB L) ⟨rfl, rfl, rfl, rfl, rfl⟩ rfl) (hr.mono (by first | decide | omega)) rfl (ja_cons (je_var 0) (ja_cons (je_var 1) (ja_cons (je_var 3) ja_nil)))))) (jss_one (js_raise' (c := "BadPayment") rfl (He.exc_ok (T.c.fact 61)) (T.cls.gm "BadPayment" (by decide +kernel)) rfl rfl)) jss_nil)
    (jss_cons (js_set (i := 4) sc_signed_by.nd rfl (by first | exact Or.inl rfl | exact Or.inr rfl) (je_sub rfl rfl (hu70 hr) (je_meth rfl (T.cls.gm "Trust" (by decide +kernel)) (T.cls.ins "Trust" (by decide +kernel)).cl (MtP.at (o_Trust_content T TB L) ⟨rfl, rfl, rfl, rfl, rfl⟩ rfl) (hr.mono (by first | decide | omega)) (je_var 0) (ja_cons (je_var 3) ja_nil)) je_int))
    (jss_cons (js_setLc (own := [("owner", 6)]) rfl sc_signed_by.nd rfl rfl (sw_true rfl rfl rfl rfl) (ji_range1 rfl (T.free 23) (je_sub rfl rfl (hu70 hr) (je_var 2) je_int)) (blkOk_by (own := [("owner", 6)]) (by rfl)) (by decide) (jgb_name sc_signed_by.nd rfl (fun _ _ _ _ _ => (by first | exact Or.inl rfl | exact Or.inr rfl)) (fun _ _ _ _ _ => by first | exact Or.inr rfl | exact Or.inl rfl)) (fun _ _ _ _ _ => (jts_one (jt_val (je_meth rfl (T.cls.gm "Trust" (by decide +kernel)) (T.cls.ins "Trust" (by decide +kernel)).cl (MtP.at (o_Trust_sealed T TB L) ⟨rfl, rfl, rfl, rfl, rfl⟩ rfl) (hr.mono (by first | decide | omega)) (je_var 0) (ja_cons (je_call (FnP.at (o_owner_of T TB L) ⟨rfl, rfl, rfl, rfl, rfl⟩ rfl) (hr.mono (by first | decide | omega)) rfl (ja_cons (je_var 1) (ja_cons (je_var 4) (ja_cons (je_var 6) ja_nil)))) (ja_cons (je_var 3) ja_nil)))))) (fun _ _ _ _ _ => (je_var 6)))
    (jss_one (js_ret (je_callTy (cs_tuple rfl) rfl (T.free 11) boot_tuple (ja_cons (je_var 5) ja_nil))))))))))
theorem o_signed_by (T : Txt txt K mg h) (TB : ∀ p ∈ txt.cs K, TabB base mg p.1 p.2) (L : Ints mg intL) : FnP (gd w K mg) P base 6 "signed_by" 4 f_signed_by := by
  obtain ⟨fd, F⟩ := T.fun_ 32 (at_ := ("signed_by", none)) (st := s_signed_by)
  exact ⟨_, fd, ["trust", "bank", "charter", "payment"], (T.glo 62), F.kp, F.binds (ps := ["trust", "bank", "charter", "payment"]) fun _ _ _ _ _ _ us hl => match us, hl with | [_, _, _, _], _ => rfl, fn_ok (P := P) (G := gd w K mg) (k := 5) F sc_signed_by rfl rfl (by decide) fun cdv A outer s H E hr => j_signed_by T TB L _ cdv A outer s H E hr⟩
theorem ok0_signed_by (T : Txt txt K mg h) (TB : ∀ p ∈ txt.cs K, TabB base mg p.1 p.2) (L : Ints mg intL) : FnPK (gd w K mg) P base 6 "signed_by" ["payment", "charter", "bank", "trust"] [3, 2, 1, 0] 4 f_signed_by := by
  obtain ⟨fd, F⟩ := T.fun_ 32 (at_ := ("signed_by", none)) (st := s_signed_by)
  have ok := fn_ok (P := P) (G := gd w K mg) (base := base) (k := 5) F sc_signed_by rfl rfl (by decide) fun cdv A outer s H E hr => j_signed_by T TB L _ cdv A outer s H E hr
  refine ⟨_, fd, ["trust", "bank", "charter", "payment"], (T.glo 62), F.kp, ?_, ok⟩
  obtain ⟨oc, od, kV, doc, pm, an, cdv, ct, osl, rfl, lk, hcd⟩ := F.ex
  exact kbn_of fun ws hl => match ws, hl with | [_, _, _, _], _ => rfl
theorem sc_is_signed : FnScope ["trust", "bank", "charter", "payment"] ["trust", "bank", "charter", "payment"] (defScope s_is_signed) := ⟨rfl, rfl, rfl, by decide +kernel, rfl, by decide +kernel, by decide +kernel⟩
theorem j_is_signed (T : Txt txt K mg h) (TB : ∀ p ∈ txt.cs K, TabB base mg p.1 p.2) (L : Ints mg intL) (f : Addr) (cdv : Value) (A : Around) (outer : List Env) (s : Shared) (H : Hp) (E : XK) (hr : Room 6 (A.deeper (envOfC "is_signed" (defScope s_is_signed) s.heap.objs.size f cdv))) :
    JSs (gd w K mg) (cxOf (L2.CX P w) P w K mg base ["trust", "bank", "charter", "payment"] "is_signed" (defScope s_is_signed) f cdv A outer s H E) b_is_signed (defBody s_is_signed) :=
    (jss_one (js_ret (je_call (FnP.at (o_can_pay T TB L) ⟨rfl, rfl, rfl, rfl, rfl⟩ rfl) (hr.mono (by first | decide | omega)) rfl (ja_cons (je_var 2) (ja_cons (je_call (FnP.at (o_signed_by T TB L) ⟨rfl, rfl, rfl, rfl, rfl⟩ rfl) (hr.mono (by first | decide | omega)) rfl (ja_cons (je_var 0) (ja_cons (je_var 1) (ja_cons (je_var 2) (ja_cons (je_var 3) ja_nil))))) ja_nil)))))
theorem o_is_signed (T : Txt txt K mg h) (TB : ∀ p ∈ txt.cs K, TabB base mg p.1 p.2) (L : Ints mg intL) : FnP (gd w K mg) P base 7 "is_signed" 4 f_is_signed := by
  obtain ⟨fd, F⟩ := T.fun_ 33 (at_ := ("is_signed", none)) (st := s_is_signed)
  exact ⟨_, fd, ["trust", "bank", "charter", "payment"], (T.glo 63), F.kp, F.binds (ps := ["trust", "bank", "charter", "payment"]) fun _ _ _ _ _ _ us hl => match us, hl with | [_, _, _, _], _ => rfl, fn_ok (P := P) (G := gd w K mg) (k := 6) F sc_is_signed rfl rfl (by decide) fun cdv A outer s H E hr => j_is_signed T TB L _ cdv A outer s H E hr⟩
theorem sc__law_payment_right : FnScope ["tape", "trust", "bank", "charter", "name", "purse", "many", "proposers", "lots", "sealed", "lap", "due", "signed", "place", "owner", "lot"] ["tape", "trust", "bank", "charter", "name", "purse"] (defScope s__law_payment_right) := ⟨rfl, rfl, rfl, by decide +kernel, rfl, by decide +kernel, by decide +kernel⟩
theorem j__law_payment_right (T : Txt txt K mg h) (TB : ∀ p ∈ txt.cs K, TabB base mg p.1 p.2) (L : Ints mg intL) (f : Addr) (cdv : Value) (A : Around) (outer : List Env) (s : Shared) (H : Hp) (E : XK) (hr : Room 7 (A.deeper (envOfC "_law_payment_right" (defScope s__law_payment_right) s.heap.objs.size f cdv))) :
    JSs (gd w K mg) (cxOf (L2.CX P w) P w K mg base ["tape", "trust", "bank", "charter", "name", "purse", "many", "proposers", "lots", "sealed", "lap", "due", "signed", "place", "owner", "lot"] "_law_payment_right" (defScope s__law_payment_right) f cdv A outer s H E) b__law_payment_right (defBody s__law_payment_right) :=
    (jss_cons (js_asg (je_var 3) (jg_tup rfl rfl (jgs_cons (jg_name sc__law_payment_right.nd rfl (by first | exact Or.inl rfl | exact Or.inr rfl)) (jgs_cons (jg_name sc__law_payment_right.nd rfl (by first | exact Or.inl rfl | exact Or.inr rfl)) (jgs_cons (jg_name sc__law_payment_right.nd rfl (by first | exact Or.inl rfl | exact Or.inr rfl)) jgs_nil)))))
    (jss_cons (js_set (i := 9) sc__law_payment_right.nd rfl (by first | exact Or.inl rfl | exact Or.inr rfl) (je_lstH ja_nil))
    (jss_cons (js_for (passes_of rfl) rfl (ji_range1 rfl (T.free 23) je_int) (jg_name sc__law_payment_right.nd rfl (by first | exact Or.inl rfl | exact Or.inr rfl)) (jss_cons (js_set (i := 11) sc__law_payment_right.nd rfl (by first | exact Or.inl rfl | exact Or.inr rfl) (je_callTy (cs_tuple rfl) rfl (T.free 11) boot_tuple (ja_cons (je_callB (cs_sorted rfl (hu70 hr)) rfl (T.free 28) boot_sorted (ja_cons (je_comp (own := [("owner", 14)]) rfl sc__law_payment_right.nd (ji_seq rfl (je_var 9)) (blkOk_by (own := [("owner", 14)]) (by rfl)) (by decide) (jgb_name sc__law_payment_right.nd rfl (fun _ _ _ _ _ => (by first | exact Or.inl rfl | exact Or.inr rfl)) (fun _ _ _ _ _ => by first | exact Or.inr rfl | exact Or.inl rfl)) (fun _ _ _ _ _ => (jts_one (jt_cmp (os_lt rfl (hu70 hr)) (je_var 14) (je_var 6)))) (fun _ _ _ _ _ => (je_var 14))) ja_nil)) ja_nil)))
    (jss_cons (js_if (jt_pw (jw_or (jt_cmp (os_ne rfl hr.units) (je_call (FnP.at (o_signed_by T TB L) ⟨rfl, rfl, rfl, rfl, rfl⟩ rfl) (hr.mono (by first | decide | omega)) rfl (ja_cons (je_var 1) (ja_cons (je_var 2) (ja_cons (je_var 3) (ja_cons (je_var 4) ja_nil))))) (je_var 11)) (jw_or1 (jt_cmp (os_ne rfl hr.units) (je_callK (FnPK.at (ok0_signed_by T TB L) ⟨rfl, rfl, rfl, rfl, rfl⟩ rfl) (hr.mono (by first | decide | omega)) rfl rfl (jk_cons (je_var 4) (jk_cons (je_var 3) (jk_cons (je_var 2) (jk_cons (je_var 1) jk_nil))))) (je_var 11))))) (jss_one (js_ret je_bool)) jss_nil)
    (jss_cons (js_set (i := 12) sc__law_payment_right.nd rfl (by first | exact Or.inl rfl | exact Or.inr rfl) (je_and (je_cmp (os_ne rfl hr.units) (je_comp (own := [("owner", 14)]) rfl sc__law_payment_right.nd (ji_seq rfl (je_var 11)) (blkOk_by (own := [("owner", 14)]) (by rfl)) (by decide) (jgb_name sc__law_payment_right.nd rfl (fun _ _ _ _ _ => (by first | exact Or.inl rfl | exact Or.inr rfl)) (fun _ _ _ _ _ => by first | exact Or.inr rfl | exact Or.inl rfl)) (fun _ _ _ _ _ => (jts_one (jt_cmp (os_in rfl rfl (hu70 hr)) (je_var 14) (je_var 7) (by first | exact nomark _ | rfl | with_unfolding_all rfl)))) (fun _ _ _ _ _ => (je_var 14))) (je_lstD ja_nil)) (je_one (je_cmp (os_ne rfl hr.units) (je_comp (own := [("lot", 15)]) rfl sc__law_payment_right.nd (ji_seq rfl (je_var 8)) (blkOk_by (own := [("lot", 15)]) (by rfl)) (by decide) (jgb_name sc__law_payment_right.nd rfl (fun _ _ _ _ _ => (by first | exact Or.inl rfl | exact Or.inr rfl)) (fun _ _ _ _ _ => by first | exact Or.inr rfl | exact Or.inl rfl)) (fun _ _ _ _ _ => (jts_one (jt_cmp (os_eq rfl hr.units) (je_comp (own := [("owner", 14)]) rfl sc__law_payment_right.nd (ji_seq rfl (je_var 15)) (blkOk_by (own := [("owner", 14)]) (by rfl)) (by decide) (jgb_name sc__law_payment_right.nd rfl (fun _ _ _ _ _ => (by first | exact Or.inl rfl | exact Or.inr rfl)) (fun _ _ _ _ _ => by first | exact Or.inr rfl | exact Or.inl rfl)) (fun _ _ _ _ _ => (jts_one (jt_cmp (os_notIn rfl rfl (hu70 hr)) (je_var 14) (je_var 11) (by first | exact nomark _ | rfl | with_unfolding_all rfl)))) (fun _ _ _ _ _ => (je_var 14))) (je_lstD ja_nil)))) (fun _ _ _ _ _ => (je_var 15))) (je_lstD ja_nil)))))
    (jss_cons (js_if (jt_not (jt_val (je_call (FnP.at (o__law_is_bool T TB L) ⟨rfl, rfl, rfl, rfl, rfl⟩ rfl) (hr.mono (by first | decide | omega)) rfl (ja_cons (je_call (FnP.at (o_is_signed T TB L) ⟨rfl, rfl, rfl, rfl, rfl⟩ rfl) (hr.mono (by first | decide | omega)) rfl (ja_cons (je_var 1) (ja_cons (je_var 2) (ja_cons (je_var 3) (ja_cons (je_var 4) ja_nil))))) (ja_cons (je_var 12) ja_nil))))) (jss_one (js_ret je_bool)) jss_nil)
    (jss_cons (js_par (i := 13) (j := 14) rfl sc__law_payment_right.nd rfl rfl (by decide) rfl rfl (ja_cons (je_call (FnP.at (o__law_draw T TB L) ⟨rfl, rfl, rfl, rfl, rfl⟩ rfl) (hr.mono (by first | decide | omega)) rfl (ja_cons (je_var 0) (ja_cons (je_callB (cs_len rfl) rfl (T.free 10) boot_len (ja_cons (je_sub rfl rfl (hu70 hr) (je_var 2) je_int) ja_nil)) ja_nil))) (ja_cons (je_call (FnP.at (o__law_draw T TB L) ⟨rfl, rfl, rfl, rfl, rfl⟩ rfl) (hr.mono (by first | decide | omega)) rfl (ja_cons (je_var 0) (ja_cons je_int ja_nil))) ja_nil)) rfl)
    (jss_cons (js_expr (je_meth rfl (T.cls.gm "Trust" (by decide +kernel)) (T.cls.ins "Trust" (by decide +kernel)).cl (MtP.at (o_Trust_seal T TB L) ⟨rfl, rfl, rfl, rfl, rfl⟩ rfl) (hr.mono (by first | decide | omega)) (je_var 1) (ja_cons (je_call (FnP.at (o_owner_of T TB L) ⟨rfl, rfl, rfl, rfl, rfl⟩ rfl) (hr.mono (by first | decide | omega)) rfl (ja_cons (je_var 2) (ja_cons (je_var 13) (ja_cons (je_var 14) ja_nil)))) (ja_cons (je_var 4) ja_nil))))
    (jss_cons (js_if (jt_cmp (os_ne rfl hr.units) (je_call (FnP.at (o_owner_of T TB L) ⟨rfl, rfl, rfl, rfl, rfl⟩ rfl) (hr.mono (by first | decide | omega)) rfl (ja_cons (je_var 2) (ja_cons (je_var 13) (ja_cons (je_var 14) ja_nil)))) (je_tup (ja_cons je_str (ja_cons (je_op (os_add rfl) (je_var 13) (je_op (os_mul rfl) (je_var 14) (je_callB (cs_len rfl) rfl (T.free 10) boot_len (ja_cons (je_sub rfl rfl (hu70 hr) (je_var 2) je_int) ja_nil)))) ja_nil)))) (jss_one (js_ret je_bool)) jss_nil)
    (jss_one (js_if (jt_pw (jw_and (jt_cmp (os_eq rfl hr.units) (je_var 13) (je_var 5)) (jw_and1 (jt_cmp (os_notIn rfl rfl (hu70 hr)) (je_var 14) (je_var 9) (by first | exact nomark _ | rfl | with_unfolding_all rfl))))) (jss_one (js_expr (je_mt PySem.F.slot_list_append PySem.F.type_list_append ms_append (je_var 9) (ja_cons (je_var 14) ja_nil)))) jss_nil))))))))))
    (jss_one (js_ret je_bool)))))
theorem o__law_payment_right (T : Txt txt K mg h) (TB : ∀ p ∈ txt.cs K, TabB base mg p.1 p.2) (L : Ints mg intL) : FnP (gd w K mg) P base 8 "_law_payment_right" 6 f__law_payment_right := by
  obtain ⟨fd, F⟩ := T.fun_ 34 (at_ := ("_law_payment_right", none)) (st := s__law_payment_right)
  exact ⟨_, fd, ["tape", "trust", "bank", "charter", "name", "purse"], (T.glo 64), F.kp, F.binds (ps := ["tape", "trust", "bank", "charter", "name", "purse"]) fun _ _ _ _ _ _ us hl => match us, hl with | [_, _, _, _, _, _], _ => rfl, fn_ok (P := P) (G := gd w K mg) (k := 7) F sc__law_payment_right rfl rfl (by decide) fun cdv A outer s H E hr => j__law_payment_right T TB L _ cdv A outer s H E hr⟩
theorem sc_law : FnScope ["script", "tape", "lap", "bank", "trust", "charter", "purse", "name", "works", "bad", "value", "work"] ["script"] (defScope s_law) := ⟨rfl, rfl, rfl, by decide +kernel, rfl, by decide +kernel, by decide +kernel⟩
abbrev le_law_0 : LamI := lamI (kE (kS (sS (dS s_law 1) 5) 0) 0)
abbrev le_law_1 : LamI := lamI (kE (kS (sS (dS s_law 1) 5) 0) 1)
abbrev le_law_2 : LamI := lamI (kE (kE (kE (kE (kS (sS (dS s_law 1) 6) 0) 1) 0) 1) 1)
abbrev le_law_3 : LamI := lamI (kE (kE (kE (kS (sS (sS (dS s_law 1) 7) 0) 0) 0) 1) 1)
abbrev le_law_4 : LamI := lamI (kE (kE (kE (kS (sS (sS (dS s_law 1) 8) 0) 0) 0) 1) 1)
abbrev le_law_5 : LamI := lamI (kE (kE (kE (kS (sS (sS (dS s_law 1) 9) 0) 0) 0) 1) 1)
abbrev le_law_6 : LamI := lamI (kE (kE (kE (kS (sS (sS (dS s_law 1) 10) 0) 0) 0) 1) 1)
def lits_law : List LamI := [le_law_0, le_law_1, le_law_2, le_law_3, le_law_4, le_law_5, le_law_6]
theorem l0_law (T : Txt txt K mg h) (TB : ∀ p ∈ txt.cs K, TabB base mg p.1 p.2) (L : Ints mg intL) (f : Addr) (A : Around) (outer : List Env) (s : Shared) (H : Hp) (E : XK) : LamOk ((gd w K mg).with (Clo.of ((envOfC "law" (defScope s_law) s.heap.objs.size f (.ref (codeA K ("law", none)))).qual ++ "<lambda>") (envOfC "law" (defScope s_law) s.heap.objs.size f (.ref (codeA K ("law", none)))).cells lits_law)) (cxOf (L2.CX P w) P w K mg base ["script", "tape", "lap", "bank", "trust", "charter", "purse", "name", "works", "bad", "value", "work"] "law" (defScope s_law) f (.ref (codeA K ("law", none))) A outer s H E) 7 le_law_0 (eCall 4 f_signed_by (aCons (eC .none) (aCons (eC .none) (aCons (eC .none) (aCons (eC .none) aNil))))) := ⟨lamS_by (by rfl), fun _ _ _ _ _ => rfl, fun A' outer' s' H' E' f' c' hr => (je_call (FnP.at (o_signed_by T TB L) ⟨rfl, rfl, rfl, rfl, rfl⟩ rfl) (hr.mono (by first | decide | omega)) rfl (ja_cons je_none (ja_cons je_none (ja_cons je_none (ja_cons je_none ja_nil)))))⟩
theorem l1_law (T : Txt txt K mg h) (TB : ∀ p ∈ txt.cs K, TabB base mg p.1 p.2) (L : Ints mg intL) (f : Addr) (A : Around) (outer : List Env) (s : Shared) (H : Hp) (E : XK) : LamOk ((gd w K mg).with (Clo.of ((envOfC "law" (defScope s_law) s.heap.objs.size f (.ref (codeA K ("law", none)))).qual ++ "<lambda>") (envOfC "law" (defScope s_law) s.heap.objs.size f (.ref (codeA K ("law", none)))).cells lits_law)) (cxOf (L2.CX P w) P w K mg base ["script", "tape", "lap", "bank", "trust", "charter", "purse", "name", "works", "bad", "value", "work"] "law" (defScope s_law) f (.ref (codeA K ("law", none))) A outer s H E) 7 le_law_1 (eCall 4 f_is_signed (aCons (eC (.int 5)) (aCons (eC .none) (aCons (eC .none) (aCons (eC .none) aNil))))) := ⟨lamS_by (by rfl), fun _ _ _ _ _ => rfl, fun A' outer' s' H' E' f' c' hr => (je_call (FnP.at (o_is_signed T TB L) ⟨rfl, rfl, rfl, rfl, rfl⟩ rfl) (hr.mono (by first | decide | omega)) rfl (ja_cons je_int (ja_cons je_none (ja_cons je_none (ja_cons je_none ja_nil)))))⟩
theorem l2_law (T : Txt txt K mg h) (TB : ∀ p ∈ txt.cs K, TabB base mg p.1 p.2) (L : Ints mg intL) (f : Addr) (A : Around) (outer : List Env) (s : Shared) (H : Hp) (E : XK) : LamOk ((gd w K mg).with (Clo.of ((envOfC "law" (defScope s_law) s.heap.objs.size f (.ref (codeA K ("law", none)))).qual ++ "<lambda>") (envOfC "law" (defScope s_law) s.heap.objs.size f (.ref (codeA K ("law", none)))).cells lits_law)) (cxOf (L2.CX P w) P w K mg base ["script", "tape", "lap", "bank", "trust", "charter", "purse", "name", "works", "bad", "value", "work"] "law" (defScope s_law) f (.ref (codeA K ("law", none))) A outer s H E) 7 le_law_2 (eCall 3 f_owner_of (aCons (eC .none) (aCons (eC .none) (aCons (eC .none) aNil)))) := ⟨lamS_by (by rfl), fun _ _ _ _ _ => rfl, fun A' outer' s' H' E' f' c' hr => (je_call (FnP.at (o_owner_of T TB L) ⟨rfl, rfl, rfl, rfl, rfl⟩ rfl) (hr.mono (by first | decide | omega)) rfl (ja_cons je_none (ja_cons je_none (ja_cons je_none ja_nil))))⟩
theorem l3_law (T : Txt txt K mg h) (TB : ∀ p ∈ txt.cs K, TabB base mg p.1 p.2) (L : Ints mg intL) (f : Addr) (A : Around) (outer : List Env) (s : Shared) (H : Hp) (E : XK) : LamOk ((gd w K mg).with (Clo.of ((envOfC "law" (defScope s_law) s.heap.objs.size f (.ref (codeA K ("law", none)))).qual ++ "<lambda>") (envOfC "law" (defScope s_law) s.heap.objs.size f (.ref (codeA K ("law", none)))).cells lits_law)) (cxOf (L2.CX P w) P w K mg base ["script", "tape", "lap", "bank", "trust", "charter", "purse", "name", "works", "bad", "value", "work"] "law" (defScope s_law) f (.ref (codeA K ("law", none))) A outer s H E) 7 le_law_3 (eCall 4 f_signed_by (aCons (eVar 4) (aCons (eVar 3) (aCons (eVar 9) (aCons (eC .none) aNil))))) := ⟨lamS_by (by rfl), fun _ _ _ _ _ => rfl, fun A' outer' s' H' E' f' c' hr => (je_call (FnP.at (o_signed_by T TB L) ⟨rfl, rfl, rfl, rfl, rfl⟩ rfl) (hr.mono (by first | decide | omega)) rfl (ja_cons (je_var 4) (ja_cons (je_var 3) (ja_cons (je_var 9) (ja_cons je_none ja_nil)))))⟩
theorem l4_law (T : Txt txt K mg h) (TB : ∀ p ∈ txt.cs K, TabB base mg p.1 p.2) (L : Ints mg intL) (f : Addr) (A : Around) (outer : List Env) (s : Shared) (H : Hp) (E : XK) : LamOk ((gd w K mg).with (Clo.of ((envOfC "law" (defScope s_law) s.heap.objs.size f (.ref (codeA K ("law", none)))).qual ++ "<lambda>") (envOfC "law" (defScope s_law) s.heap.objs.size f (.ref (codeA K ("law", none)))).cells lits_law)) (cxOf (L2.CX P w) P w K mg base ["script", "tape", "lap", "bank", "trust", "charter", "purse", "name", "works", "bad", "value", "work"] "law" (defScope s_law) f (.ref (codeA K ("law", none))) A outer s H E) 7 le_law_4 (eCall 4 f_is_signed (aCons (eVar 4) (aCons (eVar 3) (aCons (eVar 5) (aCons (eVar 9) aNil))))) := ⟨lamS_by (by rfl), fun _ _ _ _ _ => rfl, fun A' outer' s' H' E' f' c' hr => (je_call (FnP.at (o_is_signed T TB L) ⟨rfl, rfl, rfl, rfl, rfl⟩ rfl) (hr.mono (by first | decide | omega)) rfl (ja_cons (je_var 4) (ja_cons (je_var 3) (ja_cons (je_var 5) (ja_cons (je_var 9) ja_nil)))))⟩
theorem l5_law (T : Txt txt K mg h) (TB : ∀ p ∈ txt.cs K, TabB base mg p.1 p.2) (L : Ints mg intL) (f : Addr) (A : Around) (outer : List Env) (s : Shared) (H : Hp) (E : XK) : LamOk ((gd w K mg).with (Clo.of ((envOfC "law" (defScope s_law) s.heap.objs.size f (.ref (codeA K ("law", none)))).qual ++ "<lambda>") (envOfC "law" (defScope s_law) s.heap.objs.size f (.ref (codeA K ("law", none)))).cells lits_law)) (cxOf (L2.CX P w) P w K mg base ["script", "tape", "lap", "bank", "trust", "charter", "purse", "name", "works", "bad", "value", "work"] "law" (defScope s_law) f (.ref (codeA K ("law", none))) A outer s H E) 7 le_law_5 (eCall 3 f_owner_of (aCons (eVar 3) (aCons (eC (.int 0)) (aCons (eVar 9) aNil)))) := ⟨lamS_by (by rfl), fun _ _ _ _ _ => rfl, fun A' outer' s' H' E' f' c' hr => (je_call (FnP.at (o_owner_of T TB L) ⟨rfl, rfl, rfl, rfl, rfl⟩ rfl) (hr.mono (by first | decide | omega)) rfl (ja_cons (je_var 3) (ja_cons je_int (ja_cons (je_var 9) ja_nil))))⟩
theorem l6_law (T : Txt txt K mg h) (TB : ∀ p ∈ txt.cs K, TabB base mg p.1 p.2) (L : Ints mg intL) (f : Addr) (A : Around) (outer : List Env) (s : Shared) (H : Hp) (E : XK) : LamOk ((gd w K mg).with (Clo.of ((envOfC "law" (defScope s_law) s.heap.objs.size f (.ref (codeA K ("law", none)))).qual ++ "<lambda>") (envOfC "law" (defScope s_law) s.heap.objs.size f (.ref (codeA K ("law", none)))).cells lits_law)) (cxOf (L2.CX P w) P w K mg base ["script", "tape", "lap", "bank", "trust", "charter", "purse", "name", "works", "bad", "value", "work"] "law" (defScope s_law) f (.ref (codeA K ("law", none))) A outer s H E) 7 le_law_6 (eCall 3 f_owner_of (aCons (eVar 3) (aCons (eVar 9) (aCons (eC .none) aNil)))) := ⟨lamS_by (by rfl), fun _ _ _ _ _ => rfl, fun A' outer' s' H' E' f' c' hr => (je_call (FnP.at (o_owner_of T TB L) ⟨rfl, rfl, rfl, rfl, rfl⟩ rfl) (hr.mono (by first | decide | omega)) rfl (ja_cons (je_var 3) (ja_cons (je_var 9) (ja_cons je_none ja_nil))))⟩
theorem j_law (T : Txt txt K mg h) (TB : ∀ p ∈ txt.cs K, TabB base mg p.1 p.2) (L : Ints mg intL) (f : Addr) (A : Around) (outer : List Env) (s : Shared) (H : Hp) (E : XK) (hr : Room 9 (A.deeper (envOfC "law" (defScope s_law) s.heap.objs.size f (.ref (codeA K ("law", none)))))) :
    JSs ((gd w K mg).with (Clo.of ((envOfC "law" (defScope s_law) s.heap.objs.size f (.ref (codeA K ("law", none)))).qual ++ "<lambda>") (envOfC "law" (defScope s_law) s.heap.objs.size f (.ref (codeA K ("law", none)))).cells lits_law)) (cxOf (L2.CX P w) P w K mg base ["script", "tape", "lap", "bank", "trust", "charter", "purse", "name", "works", "bad", "value", "work"] "law" (defScope s_law) f (.ref (codeA K ("law", none))) A outer s H E) b_law (defBody s_law) :=
    (jss_cons (js_set (i := 1) sc_law.nd rfl (by first | exact Or.inl rfl | exact Or.inr rfl) (je_call (FnP.at (o__law_begun T TB L) ⟨rfl, rfl, rfl, rfl, rfl⟩ rfl) (hr.mono (by first | decide | omega)) rfl (ja_cons (je_var 0) ja_nil)))
    (jss_cons (js_for (passes_of rfl) rfl (ji_range1 rfl (T.free 23) (je_op (os_add rfl) je_int (je_callB (cs_min rfl) rfl (T.free 65) boot_min (ja_cons (je_callB (cs_len rfl) rfl (T.free 10) boot_len (ja_cons (je_var 0) ja_nil)) (ja_cons je_int ja_nil))))) (jg_name sc_law.nd rfl (by first | exact Or.inl rfl | exact Or.inr rfl)) (jss_cons (js_parG rfl rfl (ja_cons (je_call (FnP.at (o__law_bank T TB L) ⟨rfl, rfl, rfl, rfl, rfl⟩ rfl) (hr.mono (by first | decide | omega)) rfl (ja_cons (je_var 1) (ja_cons je_int ja_nil))) (ja_cons (je_make0 (MkP.at (o_Trust___init__ T TB L).2 (T.cls.gm "Trust" (by decide +kernel)) ⟨rfl, rfl, rfl, rfl, rfl⟩ rfl) rfl (hr.mono (by decide)) rfl) (ja_cons (je_call (FnP.at (o__law_charter T TB L) ⟨rfl, rfl, rfl, rfl, rfl⟩ rfl) (hr.mono (by first | decide | omega)) rfl (ja_cons (je_var 1) ja_nil)) ja_nil))) (jgs_cons (jg_name sc_law.nd rfl (by first | exact Or.inl rfl | exact Or.inr rfl)) (jgs_cons (jg_name sc_law.nd rfl (by first | exact Or.inl rfl | exact Or.inr rfl)) (jgs_cons (jg_name sc_law.nd rfl (by first | exact Or.inl rfl | exact Or.inr rfl)) jgs_nil))))
    (jss_cons (js_if (jt_pw (jw_or (jt_cmp os_isNot (je_call (FnP.at (o_is_charter T TB L) ⟨rfl, rfl, rfl, rfl, rfl⟩ rfl) (hr.mono (by first | decide | omega)) rfl (ja_cons (je_var 5) ja_nil)) je_bool) (jw_or1 (jt_cmp (os_ne rfl hr.units) (je_comp (own := [("value", 10)]) rfl sc_law.nd (ji_seq rfl (je_call (FnP.at (o__law_near T TB L) ⟨rfl, rfl, rfl, rfl, rfl⟩ rfl) (hr.mono (by first | decide | omega)) rfl (ja_cons (je_var 5) ja_nil))) (blkOk_by (own := [("value", 10)]) (by rfl)) (by decide) (jgb_name sc_law.nd rfl (fun _ _ _ _ _ => (by first | exact Or.inl rfl | exact Or.inr rfl)) (fun _ _ _ _ _ => by first | exact Or.inr rfl | exact Or.inl rfl)) (fun _ _ _ _ _ => (jts_one (jt_cmp os_isNot (je_call (FnP.at (o_is_charter T TB L) ⟨rfl, rfl, rfl, rfl, rfl⟩ rfl) (hr.mono (by first | decide | omega)) rfl (ja_cons (je_var 10) ja_nil)) je_bool))) (fun _ _ _ _ _ => (je_var 10))) (je_lstD ja_nil))))) (jss_one (js_ret je_bool)) jss_nil)
    (jss_cons (js_set (i := 6) sc_law.nd rfl (by first | exact Or.inl rfl | exact Or.inr rfl) (je_call (FnP.at (o__law_draw T TB L) ⟨rfl, rfl, rfl, rfl, rfl⟩ rfl) (hr.mono (by first | decide | omega)) rfl (ja_cons (je_var 1) (ja_cons (je_callB (cs_len rfl) rfl (T.free 10) boot_len (ja_cons (je_sub rfl rfl (hu70 hr) (je_var 3) je_int) ja_nil)) ja_nil))))
    (jss_cons (js_set (i := 7) sc_law.nd rfl (by first | exact Or.inl rfl | exact Or.inr rfl) (je_meth rfl (T.cls.gm "Trust" (by decide +kernel)) (T.cls.ins "Trust" (by decide +kernel)).cl (MtP.at (o_Trust_name T TB L) ⟨rfl, rfl, rfl, rfl, rfl⟩ rfl) (hr.mono (by first | decide | omega)) (je_var 4) (ja_cons (je_tup (ja_cons je_str (ja_cons (je_var 6) (ja_cons je_int (ja_cons je_int (ja_cons je_int (ja_cons (je_op (os_mul rfl) (je_tup (ja_cons je_none ja_nil)) (je_callB (cs_len rfl) rfl (T.free 10) boot_len (ja_cons (je_sub rfl rfl (hu70 hr) (je_var 3) je_int) ja_nil))) ja_nil))))))) ja_nil)))
    (jss_cons (js_if (jt_not (jt_val (je_call (FnP.at (o__law_payment_right T TB L) ⟨rfl, rfl, rfl, rfl, rfl⟩ rfl) (hr.mono (by first | decide | omega)) rfl (ja_cons (je_var 1) (ja_cons (je_var 4) (ja_cons (je_var 3) (ja_cons (je_var 5) (ja_cons (je_var 7) (ja_cons (je_var 6) ja_nil))))))))) (jss_one (js_ret je_bool)) jss_nil)
    (jss_cons (js_set (i := 8) sc_law.nd rfl (by first | exact Or.inl rfl | exact Or.inr rfl) (je_clos (ja_cons (je_lam (ls := lits_law) (k := 0) (l := le_law_0) rfl (fun _ _ _ _ h => h) (TB _ (T.csM (p := (("law", none), "law" ++ ".<locals>." ++ "<lambda>")) (List.mem_of_getElem? (i := 0) rfl))) rfl (T.tabM (p := (("law", none), "law" ++ ".<locals>." ++ "<lambda>")) (List.mem_of_getElem? (i := 0) rfl)) (T.tabU (p := (("law", none), "law" ++ ".<locals>." ++ "<lambda>")) (List.mem_of_getElem? (i := 0) rfl)) rfl (lamS_by (by rfl))) (ja_cons (je_lam (ls := lits_law) (k := 1) (l := le_law_1) rfl (fun _ _ _ _ h => h) (TB _ (T.csM (p := (("law", none), "law" ++ ".<locals>." ++ "<lambda>")) (List.mem_of_getElem? (i := 0) rfl))) rfl (T.tabM (p := (("law", none), "law" ++ ".<locals>." ++ "<lambda>")) (List.mem_of_getElem? (i := 0) rfl)) (T.tabU (p := (("law", none), "law" ++ ".<locals>." ++ "<lambda>")) (List.mem_of_getElem? (i := 0) rfl)) rfl (lamS_by (by rfl))) ja_nil))))
    (jss_cons (js_if (jt_pw (jw_or (jt_cmp (os_ne rfl hr.units) (je_compC (own := [("work", 11)]) rfl sc_law.nd (ji_seq rfl (je_var 8)) (blkOk_by (own := [("work", 11)]) (by rfl)) (by decide) (fun _ _ _ _ h => h) (jgba_name sc_law.nd rfl (fun _ _ _ _ _ => (by first | exact Or.inl rfl | exact Or.inr rfl)) (fun _ _ _ _ _ => by first | exact Or.inr rfl | exact Or.inl rfl)) (fun ρ0 σ0 s0 H0 C0 cl0 fp0 at0 => (jts_one (jt_not (jt_val (je_isiC rfl (isiC_ok rfl T.cls (by decide +kernel)) rfl (T.free 5) rfl (T.cls.gm "BadTrust" (by decide +kernel)) (je_caughtB (ls := lits_law) (k := 7) at0 (cD T rfl rfl) (hr.mono (by decide)) (LamsOk.of (.cons (l0_law T TB L f A outer s H E) (.cons (l1_law T TB L f A outer s H E) (.cons (l2_law T TB L f A outer s H E) (.cons (l3_law T TB L f A outer s H E) (.cons (l4_law T TB L f A outer s H E) (.cons (l5_law T TB L f A outer s H E) (.cons (l6_law T TB L f A outer s H E) .nil)))))))) rfl (je_var 11))))))) (fun ρ0 σ0 s0 H0 C0 cl0 fp0 at0 => (je_var 11))) (je_lstD ja_nil)) (jw_or1 (jt_not (jt_val (je_isiC rfl (isiC_ok rfl T.cls (by decide +kernel)) rfl (T.free 5) rfl (T.cls.gm "BadBank" (by decide +kernel)) (je_caught (ls := lits_law) (k := 7) (cD T rfl rfl) (hr.mono (by decide)) (LamsOk.of (.cons (l0_law T TB L f A outer s H E) (.cons (l1_law T TB L f A outer s H E) (.cons (l2_law T TB L f A outer s H E) (.cons (l3_law T TB L f A outer s H E) (.cons (l4_law T TB L f A outer s H E) (.cons (l5_law T TB L f A outer s H E) (.cons (l6_law T TB L f A outer s H E) .nil)))))))) (fun _ _ _ _ h => h) rfl (je_lam (ls := lits_law) (k := 2) (l := le_law_2) rfl (fun _ _ _ _ h => h) (TB _ (T.csM (p := (("law", none), "law" ++ ".<locals>." ++ "<lambda>")) (List.mem_of_getElem? (i := 0) rfl))) rfl (T.tabM (p := (("law", none), "law" ++ ".<locals>." ++ "<lambda>")) (List.mem_of_getElem? (i := 0) rfl)) (T.tabU (p := (("law", none), "law" ++ ".<locals>." ++ "<lambda>")) (List.mem_of_getElem? (i := 0) rfl)) rfl (lamS_by (by rfl)))))))))) (jss_one (js_ret je_bool)) jss_nil)
    (jss_cons (js_for (passes_of rfl) rfl (ji_seq rfl (je_call (FnP.at (o__law_near T TB L) ⟨rfl, rfl, rfl, rfl, rfl⟩ rfl) (hr.mono (by first | decide | omega)) rfl (ja_cons (je_var 5) ja_nil))) (jg_name sc_law.nd rfl (by first | exact Or.inl rfl | exact Or.inr rfl)) (jss_one (js_if (jt_not (jt_val (je_isiC rfl (isiC_ok rfl T.cls (by decide +kernel)) rfl (T.free 5) rfl (T.cls.gm "BadCharter" (by decide +kernel)) (je_caught (ls := lits_law) (k := 7) (cD T rfl rfl) (hr.mono (by decide)) (LamsOk.of (.cons (l0_law T TB L f A outer s H E) (.cons (l1_law T TB L f A outer s H E) (.cons (l2_law T TB L f A outer s H E) (.cons (l3_law T TB L f A outer s H E) (.cons (l4_law T TB L f A outer s H E) (.cons (l5_law T TB L f A outer s H E) (.cons (l6_law T TB L f A outer s H E) .nil)))))))) (fun _ _ _ _ h => h) rfl (je_lam (ls := lits_law) (k := 3) (l := le_law_3) rfl (fun _ _ _ _ h => h) (TB _ (T.csM (p := (("law", none), "law" ++ ".<locals>." ++ "<lambda>")) (List.mem_of_getElem? (i := 0) rfl))) rfl (T.tabM (p := (("law", none), "law" ++ ".<locals>." ++ "<lambda>")) (List.mem_of_getElem? (i := 0) rfl)) (T.tabU (p := (("law", none), "law" ++ ".<locals>." ++ "<lambda>")) (List.mem_of_getElem? (i := 0) rfl)) rfl (lamS_by (by rfl))))))) (jss_one (js_ret je_bool)) jss_nil)))
    (jss_cons (js_for (passes_of rfl) rfl (ji_seq rfl (je_lstD (ja_cons je_none (ja_cons (je_meth rfl (T.cls.gm "Trust" (by decide +kernel)) (T.cls.ins "Trust" (by decide +kernel)).cl (MtP.at (o_Trust_name T TB L) ⟨rfl, rfl, rfl, rfl, rfl⟩ rfl) (hr.mono (by first | decide | omega)) (je_var 4) (ja_cons je_str ja_nil)) (ja_cons (je_tup (ja_cons je_str (ja_cons (je_op os_pow je_int je_int) ja_nil))) (ja_cons je_int ja_nil)))))) (jg_name sc_law.nd rfl (by first | exact Or.inl rfl | exact Or.inr rfl)) (jss_one (js_if (jt_not (jt_val (je_isiC rfl (isiC_ok rfl T.cls (by decide +kernel)) rfl (T.free 5) rfl (T.cls.gm "BadPayment" (by decide +kernel)) (je_caught (ls := lits_law) (k := 7) (cD T rfl rfl) (hr.mono (by decide)) (LamsOk.of (.cons (l0_law T TB L f A outer s H E) (.cons (l1_law T TB L f A outer s H E) (.cons (l2_law T TB L f A outer s H E) (.cons (l3_law T TB L f A outer s H E) (.cons (l4_law T TB L f A outer s H E) (.cons (l5_law T TB L f A outer s H E) (.cons (l6_law T TB L f A outer s H E) .nil)))))))) (fun _ _ _ _ h => h) rfl (je_lam (ls := lits_law) (k := 4) (l := le_law_4) rfl (fun _ _ _ _ h => h) (TB _ (T.csM (p := (("law", none), "law" ++ ".<locals>." ++ "<lambda>")) (List.mem_of_getElem? (i := 0) rfl))) rfl (T.tabM (p := (("law", none), "law" ++ ".<locals>." ++ "<lambda>")) (List.mem_of_getElem? (i := 0) rfl)) (T.tabU (p := (("law", none), "law" ++ ".<locals>." ++ "<lambda>")) (List.mem_of_getElem? (i := 0) rfl)) rfl (lamS_by (by rfl))))))) (jss_one (js_ret je_bool)) jss_nil)))
    (jss_cons (js_for (passes_of rfl) rfl (ji_seq rfl (je_lstD (ja_cons je_none (ja_cons (je_un us_neg je_int) (ja_cons je_int (ja_cons je_bool ja_nil)))))) (jg_name sc_law.nd rfl (by first | exact Or.inl rfl | exact Or.inr rfl)) (jss_one (js_if (jt_not (jt_val (je_isiC rfl (isiC_ok rfl T.cls (by decide +kernel)) rfl (T.free 5) rfl (T.cls.gm "BadOwner" (by decide +kernel)) (je_caught (ls := lits_law) (k := 7) (cD T rfl rfl) (hr.mono (by decide)) (LamsOk.of (.cons (l0_law T TB L f A outer s H E) (.cons (l1_law T TB L f A outer s H E) (.cons (l2_law T TB L f A outer s H E) (.cons (l3_law T TB L f A outer s H E) (.cons (l4_law T TB L f A outer s H E) (.cons (l5_law T TB L f A outer s H E) (.cons (l6_law T TB L f A outer s H E) .nil)))))))) (fun _ _ _ _ h => h) rfl (je_lam (ls := lits_law) (k := 5) (l := le_law_5) rfl (fun _ _ _ _ h => h) (TB _ (T.csM (p := (("law", none), "law" ++ ".<locals>." ++ "<lambda>")) (List.mem_of_getElem? (i := 0) rfl))) rfl (T.tabM (p := (("law", none), "law" ++ ".<locals>." ++ "<lambda>")) (List.mem_of_getElem? (i := 0) rfl)) (T.tabU (p := (("law", none), "law" ++ ".<locals>." ++ "<lambda>")) (List.mem_of_getElem? (i := 0) rfl)) rfl (lamS_by (by rfl))))))) (jss_one (js_ret je_bool)) jss_nil)))
    (jss_one (js_for (passes_of rfl) rfl (ji_seq rfl (je_lstD (ja_cons je_none (ja_cons (je_un us_neg je_int) (ja_cons (je_callB (cs_len rfl) rfl (T.free 10) boot_len (ja_cons (je_sub rfl rfl (hu70 hr) (je_var 3) je_int) ja_nil)) (ja_cons je_bool ja_nil)))))) (jg_name sc_law.nd rfl (by first | exact Or.inl rfl | exact Or.inr rfl)) (jss_one (js_if (jt_not (jt_val (je_isiC rfl (isiC_ok rfl T.cls (by decide +kernel)) rfl (T.free 5) rfl (T.cls.gm "BadPurse" (by decide +kernel)) (je_caught (ls := lits_law) (k := 7) (cD T rfl rfl) (hr.mono (by decide)) (LamsOk.of (.cons (l0_law T TB L f A outer s H E) (.cons (l1_law T TB L f A outer s H E) (.cons (l2_law T TB L f A outer s H E) (.cons (l3_law T TB L f A outer s H E) (.cons (l4_law T TB L f A outer s H E) (.cons (l5_law T TB L f A outer s H E) (.cons (l6_law T TB L f A outer s H E) .nil)))))))) (fun _ _ _ _ h => h) rfl (je_lam (ls := lits_law) (k := 6) (l := le_law_6) rfl (fun _ _ _ _ h => h) (TB _ (T.csM (p := (("law", none), "law" ++ ".<locals>." ++ "<lambda>")) (List.mem_of_getElem? (i := 0) rfl))) rfl (T.tabM (p := (("law", none), "law" ++ ".<locals>." ++ "<lambda>")) (List.mem_of_getElem? (i := 0) rfl)) (T.tabU (p := (("law", none), "law" ++ ".<locals>." ++ "<lambda>")) (List.mem_of_getElem? (i := 0) rfl)) rfl (lamS_by (by rfl))))))) (jss_one (js_ret je_bool)) jss_nil)))))))))))))))
    (jss_one (js_ret (je_and (je_cmp (os_eq rfl hr.units) (je_call (FnP.at (o_owner_of T TB L) ⟨rfl, rfl, rfl, rfl, rfl⟩ rfl) (hr.mono (by first | decide | omega)) rfl (ja_cons (je_tup (ja_cons (je_tup (ja_cons je_int (ja_cons je_int ja_nil))) (ja_cons je_int (ja_cons je_int ja_nil)))) (ja_cons je_int (ja_cons je_int ja_nil)))) (je_tup (ja_cons je_str (ja_cons je_int ja_nil)))) (je_one (je_not (je_isiC rfl (isiC_ok rfl T.cls (by decide +kernel)) rfl (T.free 5) rfl (T.cls.gm "PurseError" (by decide +kernel)) (je_var 1)))))))))
theorem o_law (T : Txt txt K mg h) (TB : ∀ p ∈ txt.cs K, TabB base mg p.1 p.2) (L : Ints mg intL) : FnP (gd w K mg) P base 10 "law" 1 f_law := by
  obtain ⟨fd, F⟩ := T.fun_ 35 (at_ := ("law", none)) (st := s_law)
  exact ⟨_, fd, ["script"], (T.glo 66), F.kp, F.binds (ps := ["script"]) fun _ _ _ _ _ _ us hl => match us, hl with | [_], _ => rfl, fn_okL (P := P) (G := gd w K mg) (k := 9) (ls := lits_law) F (T.code F (q := "law" ++ ".<locals>." ++ "<lambda>") (List.mem_of_getElem? (i := 0) rfl)) sc_law rfl rfl fun A outer s H E hr => j_law T TB L _ A outer s H E hr⟩
theorem glo_law (T : Txt txt K mg h) : mg "law" = some (.ref (He.ga K "law")) := T.glo 66
theorem end_law (T : Txt txt K mg h) (L : Ints mg intL) : ∃ fd : FuncData, (∀ (s : Shared) (u : Value), BindsTo s fd ⟨[u], []⟩ [(("script" : Str), u)]) ∧ ∀ base : Heap, (∀ p ∈ txt.cs K, TabB base mg p.1 p.2) → FnOk P w K mg base (L2.CX P w) 10 (He.ga K "law") fd ["script"] (spOf (gd w K mg) 1 f_law) := by
  obtain ⟨fd, F⟩ := T.fun_ 35 (at_ := ("law", none)) (st := s_law)
  refine ⟨fd, fun s u => ?_, fun base TB => fn_okL (P := P) (G := gd w K mg) (k := 9) (ls := lits_law) F (T.code F (q := "law" ++ ".<locals>." ++ "<lambda>") (List.mem_of_getElem? (i := 0) rfl)) sc_law rfl rfl fun A outer s H E hr => j_law T TB L _ A outer s H E hr⟩
  obtain ⟨oc, od, kV, doc, pm, an, cdv, ct, osl, rfl, lk, hcd⟩ := F.ex
  exact .of_eq rfl
end
end Q

set_option Elab.async false
set_option maxRecDepth 100000
set_option linter.all false
set_option autoImplicit false
/-! RA: how the printed functions are evaluated (for simp). -/
namespace Q
open PySem PySem.Spec PyProof.Rows L2 LamX

section
variable {α β : Type} {a : α} {h h' : AH} {c : String} {fs : List (String × PyData)} {k : α → AH → Out β} {ks : α → AH → OutS} {ρ : Env'} {m m1 m2 : SemE} {t t1 t2 : SemT} {ms : SemA} {b1 b2 : SemS}
@[simp] theorem out_ok : (Out.ok a h).bind k = k a h := rfl
@[simp] theorem out_err : (Out.err c fs h : Out α).bind k = .err c fs h := rfl
@[simp] theorem out_bad : (Out.bad : Out α).bind k = .bad := rfl
@[simp] theorem st_ok : (Out.ok a h).st ks = ks a h := rfl
@[simp] theorem st_err : (Out.err c fs h : Out α).st ks = .err c fs h := rfl
@[simp] theorem st_bad : (Out.bad : Out α).st ks = .bad := rfl
@[simp] theorem ofOpt_some : Out.ofOpt (some a) h = .ok a h := rfl
@[simp] theorem ofOpt_none : (Out.ofOpt none h : Out α) = .bad := rfl
@[simp] theorem ev_var (i : Nat) : eVar i ρ h = (match ρ[i]? with | some (some x) => .ok x h | _ => .bad) := rfl
@[simp] theorem ev_c (x : PyData) : eC x ρ h = .ok (.d x) h := rfl
@[simp] theorem ev_op (o : Op2) : eOp o m1 m2 ρ h = (m1 ρ h).bind fun x h1 => (m2 ρ h1).bind fun y h2 => .ofOpt (o x y h2) h2 := rfl
@[simp] theorem ev_un (o : Op1) : eUn o m ρ h = (m ρ h).bind fun x h1 => .ofOpt (o x h1) h1 := rfl
@[simp] theorem ev_app (o : OpN) : eApp o ms ρ h = (ms ρ h).bind fun xs h1 => .ofOpt (o xs h1) h1 := rfl
@[simp] theorem ev_nil : aNil ρ h = .ok [] h := rfl
@[simp] theorem ev_cons : aCons m ms ρ h = (m ρ h).bind fun x h1 => (ms ρ h1).bind fun xs h2 => .ok (x :: xs) h2 := rfl
@[simp] theorem ev_call (n : Nat) (fn : Fn) : eCall n fn ms ρ h = (ms ρ h).bind fun xs h1 => if xs.all W.flat = true ∧ xs.length = n then fn xs h1 else .bad := rfl
@[simp] theorem ev_and : eAnd m1 m2 ρ h = (m1 ρ h).bind fun x h1 => match x with | .d (.bool true) => m2 ρ h1 | .d (.bool false) => .ok (.d (.bool false)) h1 | _ => .bad := rfl
@[simp] theorem ev_or : eOr m1 m2 ρ h = (m1 ρ h).bind fun x h1 => match x with | .d (.bool true) => .ok (.d (.bool true)) h1 | .d (.bool false) => m2 ρ h1 | _ => .bad := rfl
@[simp] theorem ev_not : eNot m ρ h = (m ρ h).bind fun x h1 => match x with | .d (.bool b) => .ok (.d (.bool (!b))) h1 | _ => .bad := rfl
@[simp] theorem ev_if : eIf t m1 m2 ρ h = (t ρ h).bind fun b h1 => if b = true then m1 ρ h1 else m2 ρ h1 := rfl
@[simp] theorem ev_tOf : tOf m ρ h = (m ρ h).bind fun x h1 => match x with | .d (.bool b) => .ok b h1 | _ => .bad := rfl
@[simp] theorem ev_tAnd : tAndS t1 t2 ρ h = (t1 ρ h).bind fun b h1 => if b = true then t2 ρ h1 else .ok false h1 := rfl
@[simp] theorem ev_tOr : tOrS t1 t2 ρ h = (t1 ρ h).bind fun b h1 => if b = true then .ok true h1 else t2 ρ h1 := rfl
@[simp] theorem ev_tNot : tNotS t ρ h = (t ρ h).bind fun b h1 => .ok (!b) h1 := rfl
@[simp] theorem ev_tYes : tYesS ρ h = .ok true h := rfl
@[simp] theorem ev_tup : eTup ms ρ h = (ms ρ h).bind fun xs h1 => .ofOpt ((allD xs).bind fun ds => if ds.length ≤ 1000 then some (.d (.tuple ds)) else none) h1 := rfl
@[simp] theorem ev_lstD : eLstD ms ρ h = (ms ρ h).bind fun xs h1 => .ofOpt ((allD xs).bind fun ds => if ds.length ≤ 1000 then some (.d (.list ds)) else none) h1 := rfl
@[simp] theorem ev_lstH : eLstH ms ρ h = (ms ρ h).bind fun xs h1 => if (xs.all W.flat = true ∧ xs.length ≤ 1000) then .ok (.ref h1.n) (h1.new (.lst xs)) else .bad := rfl
@[simp] theorem ev_dctD : eDctD ρ h = .ok (.d (.dict [])) h := rfl
@[simp] theorem ev_dctH : eDctH ρ h = .ok (.ref h.n) (h.new (.dct [])) := rfl
@[simp] theorem ev_lam (i : Nat) : eLam i ρ h = .ok (.clo i) h := rfl
@[simp] theorem ev_clos : eClos ms ρ h = (ms ρ h).bind fun xs h1 => .ofOpt ((allC xs).bind fun ks => if ks.length ≤ 1000 then some (.clos ks) else none) h1 := rfl
@[simp] theorem ev_chain (o o' : Op2) (m3 : SemE) : eChain o o' m1 m2 m3 ρ h = (m1 ρ h).bind fun x h1 => (m2 ρ h1).bind fun y h2 => match o x y h2 with
  | some (.d (.bool true)) => (m3 ρ h2).bind fun z h3 => .ofOpt (o' y z h3) h3
  | some (.d (.bool false)) => .ok (.d (.bool false)) h2
  | _ => .bad := rfl
@[simp] theorem ev_disp (ks : List Str) : eDisp ks ms ρ h = (ms ρ h).bind fun ws h1 => if ws.all W.flat = true ∧ ws.length = ks.length then .ok (.ref h1.n) (h1.new (.dct ((ks.zip ws).map fun p => (.str p.1, p.2)))) else .bad := rfl
@[simp] theorem ev_sNil : sNil ρ h = .nx ρ h := rfl
@[simp] theorem ev_sSeq : sSeq b1 b2 ρ h = (match b1 ρ h with | .nx ρ' h' => b2 ρ' h' | o => o) := rfl
@[simp] theorem ev_sExpr : sExpr m ρ h = (m ρ h).st fun _ h1 => .nx ρ h1 := rfl
@[simp] theorem ev_sRet : sRet m ρ h = (m ρ h).st fun x h1 => .rt x h1 := rfl
@[simp] theorem ev_sRetN : sRetN ρ h = .rt (.d .none) h := rfl
@[simp] theorem ev_sIf : sIf t b1 b2 ρ h = (t ρ h).st fun c h1 => if c = true then b1 ρ h1 else b2 ρ h1 := rfl
@[simp] theorem ev_sSet (i : Nat) : sSet i m ρ h = (m ρ h).st fun x h1 => .nx (ρ.set i (some x)) h1 := rfl
@[simp] theorem ev_sBreak : sBreak ρ h = .bk ρ h := rfl
@[simp] theorem ev_sCont : sCont ρ h = .ct ρ h := rfl
@[simp] theorem ev_sRaise (c : String) : sRaise c ρ h = .err c [] h := rfl
@[simp] theorem ev_sPar (i j : Nat) : sPar i j ms ρ h = (ms ρ h).st fun xs h1 => match xs with
  | [x, y] => .nx ((ρ.set i (some x)).set j (some y)) h1
  | _ => .bad := rfl
@[simp] theorem ev_sAsg (g : SemG) : sAsg g m ρ h = (m ρ h).st fun x h1 => match g x ρ with
  | some ρ' => .nx ρ' h1
  | none => .bad := rfl
@[simp] theorem ev_gN (i : Nat) (x : W) : gN i x ρ = some (ρ.set i (some x)) := rfl
@[simp] theorem ev_fld (c f : String) : eFld c f m ρ h = (m ρ h).bind fun x h1 => match x with
  | .ref i => match h1.f i with
    | some (.ins c' fs) => if c' = c then .ofOpt (lookS f fs) h1 else .bad
    | _ => .bad
  | _ => .bad := rfl
@[simp] theorem ev_meth (c n : String) (np : Nat) (fn : Fn) : eMeth c n np fn m ms ρ h = (m ρ h).bind fun x h1 => match x with
  | .ref i => match h1.f i with
    | some (.ins c' fs) => if c' = c ∧ noS n fs = true then (ms ρ h1).bind fun xs h2 => if xs.all W.flat = true ∧ xs.length + 1 = np then fn (.ref i :: xs) h2 else .bad else .bad
    | _ => .bad
  | _ => .bad := rfl
@[simp] theorem ev_make (c : String) (np : Nat) (fn : Fn) : eMake c np fn ms ρ h = (ms ρ h).bind fun xs h1 => if xs.all W.flat = true ∧ xs.length + 1 = np then (fn (.ref h1.n :: xs) (h1.new (.ins c []))).bind fun r h2 => match r with
  | .d .none => .ok (.ref h1.n) h2
  | _ => .bad else .bad := rfl
@[simp] theorem ev_fldS (c f : String) : sFldS c f m m1 ρ h = (m1 ρ h).st fun w h1 => (m ρ h1).st fun x h2 => match x with
  | .ref i => match h2.f i with
    | some (.ins c' fs) => if c' = c ∧ w.flat = true ∧ fs.length < 1000 then .nx ρ (h2.set i (.ins c' (putS f w fs))) else .bad
    | _ => .bad
  | _ => .bad := rfl
@[simp] theorem ev_put (mi mv : SemE) : sPut m mi mv ρ h = (mv ρ h).st fun w h1 => (m ρ h1).st fun x h2 => (mi ρ h2).st fun y h3 => putIn w x y ρ h3 := rfl
@[simp] theorem ev_mt (f : OpM) : eMt f m ms ρ h = (m ρ h).bind fun x h1 => match lstAt h1 x with
  | some _ => (ms ρ h1).bind fun xs h2 => match lstAt h2 x with
    | some (i, ws) => match f i ws xs h2 with
      | some (z, h3) => .ok z h3
      | none => .bad
    | none => .bad
  | none => .bad := rfl
@[simp] theorem ev_seq : iSeq m ρ h = (m ρ h).bind fun x h1 => match x with
  | .d (.list ds) => (.ok (ds.map W.d, (fun _ => True : AH → Prop)) h1 : Out (List W × (AH → Prop)))
  | .d (.tuple ds) => .ok (ds.map W.d, (fun _ => True : AH → Prop)) h1
  | .ref i => match h1.f i with
    | some (.lst ws) => .ok (ws, (fun h => h.f i = some (.lst ws) : AH → Prop)) h1
    | _ => .bad
  | .clos ks => .ok (ks.map W.clo, (fun _ => True : AH → Prop)) h1
  | _ => .bad := rfl
end
@[simp] theorem flat_d (x : PyData) : (W.d x).flat = true := rfl
@[simp] theorem flat_ref (i : Nat) : (W.ref i).flat = true := rfl
@[simp] theorem flat_exc (c : String) (fs : List (String × PyData)) : (W.exc c fs).flat = true := rfl
@[simp] theorem flat_clo (k : Nat) : (W.clo k).flat = false := rfl
@[simp] theorem flat_clos (k : List Nat) : (W.clos k).flat = false := rfl
@[simp] theorem toD_d (h : AH) (x : PyData) : toD h (.d x) = some x := rfl
@[simp] theorem set_f (h : AH) (i : Nat) (o : AO) (j : Nat) : (h.set i o).f j = if j = i then some o else h.f j := rfl
@[simp] theorem set_n (h : AH) (i : Nat) (o : AO) : (h.set i o).n = h.n := rfl
@[simp] theorem new_f (h : AH) (o : AO) (j : Nat) : (h.new o).f j = if j = h.n then some o else h.f j := rfl
@[simp] theorem new_n (h : AH) (o : AO) : (h.new o).n = h.n + 1 := rfl
@[simp] theorem at0 {α : Type} (a : α) (l : List α) : atI (a :: l) 0 = some a := by simp [atI, ixN]
@[simp] theorem at1 {α : Type} (a b : α) (l : List α) : atI (a :: b :: l) 1 = some b := by
  simp only [atI, ixN]
  rw [if_pos (by simp), if_pos (by simp only [List.length_cons]; omega)]
  rfl
@[simp] theorem ev_allD_map (ds : List PyData) : allD (ds.map W.d) = some ds := allD_map ds
@[simp] theorem allD_nil : allD [] = some [] := rfl
@[simp] theorem allD_d (x : PyData) (ws : List W) : allD (.d x :: ws) = (allD ws).map (x :: ·) := rfl
/-- only the objects in S may have changed, and new ones come -/
def Same (S : List Nat) (h h' : AH) : Prop := h.n ≤ h'.n ∧ ∀ j, j < h.n → j ∉ S → h'.f j = h.f j
theorem Same.refl (S : List Nat) (h : AH) : Same S h h := ⟨Nat.le_refl _, fun _ _ _ => rfl⟩
theorem Same.trans {S : List Nat} {h h1 h2 : AH} (a : Same S h h1) (b : Same S h1 h2) : Same S h h2 := ⟨Nat.le_trans a.1 b.1, fun j hj hs => by rw [b.2 j (Nat.lt_of_lt_of_le hj a.1) hs, a.2 j hj hs]⟩
theorem Same.mono {S S' : List Nat} {h h1 : AH} (a : Same S h h1) (s : ∀ j ∈ S, j ∈ S') : Same S' h h1 := ⟨a.1, fun j hj hs => a.2 j hj fun z => hs (s j z)⟩
theorem Same.new {S : List Nat} {h h' : AH} {o : AO} (a : Same S h h') : Same S h (h'.new o) := ⟨Nat.le_trans a.1 (Nat.le_succ _), fun j hj hs => by
  have := Nat.lt_of_lt_of_le hj a.1
  rw [new_f, if_neg (by omega)]
  exact a.2 j hj hs⟩
theorem Same.set {S : List Nat} {h h' : AH} {i : Nat} {o : AO} (a : Same S h h') (hi : i ∈ S ∨ h.n ≤ i) : Same S h (h'.set i o) := ⟨a.1, fun j hj hs => by
  rw [set_f, if_neg (fun z => by
    subst z
    rcases hi with q | q
    · exact hs q
    · omega)]
  exact a.2 j hj hs⟩
end Q

set_option Elab.async false
set_option maxRecDepth 100000
set_option linter.all false
set_option autoImplicit false
/-! RB: data as keys, pure comprehensions, loops. -/
namespace Q
open PySem PySem.Spec PyProof.Rows L2 LamX

/-- data without bools, lists and dicts, nested at most so deep -/
def ck : Nat → PyData → Bool
  | _, .none => true
  | _, .int _ => true
  | _, .str s => PyData.canLay0 (.str s)
  | n + 1, .tuple xs => xs.all (ck n)
  | _, _ => false
theorem ck_none (n : Nat) : ck n .none = true := by cases n <;> rfl
theorem ck_int (n : Nat) (i : Int) : ck n (.int i) = true := by cases n <;> rfl
theorem ck_str (n : Nat) (s : Str) : ck n (.str s) = PyData.canLay0 (.str s) := by cases n <;> rfl
theorem ck_tup (n : Nat) (xs : List PyData) : ck (n + 1) (.tuple xs) = xs.all (ck n) := rfl
theorem ck_bool (n : Nat) (b : Bool) : ck n (.bool b) = false := by cases n <;> rfl
theorem ck_list (n : Nat) (b : List PyData) : ck n (.list b) = false := by cases n <;> rfl
theorem ck_dict (n : Nat) (b : List (PyData × PyData)) : ck n (.dict b) = false := by cases n <;> rfl
/-- by the shape -/
theorem ck_rec {P : Nat → PyData → Prop} (h0 : ∀ n, P n .none) (h1 : ∀ n i, P n (.int i)) (h2 : ∀ n s, PyData.canLay0 (.str s) = true → P n (.str s)) (h3 : ∀ n xs, (∀ x ∈ xs, ck n x = true) → (∀ x ∈ xs, P n x) → P (n + 1) (.tuple xs)) : ∀ (n : Nat) (d : PyData), ck n d = true → P n d
  | n, .none, _ => h0 n
  | n, .int i, _ => h1 n i
  | n, .str s, h => h2 n s (by rw [ck_str] at h; exact h)
  | 0, .tuple xs, h => by cases h
  | n + 1, .tuple xs, h => by
    rw [ck_tup, List.all_eq_true] at h
    exact h3 n xs h fun x hx => ck_rec h0 h1 h2 h3 n x (h x hx)
  | n, .bool _, h => by rw [ck_bool] at h; cases h
  | n, .list _, h => by rw [ck_list] at h; cases h
  | n, .dict _, h => by rw [ck_dict] at h; cases h
theorem ck_succ (n : Nat) (d : PyData) (h : ck n d = true) : ck (n + 1) d = true := by
  refine ck_rec (P := fun n d => ck (n + 1) d = true) ?_ ?_ ?_ ?_ n d h
  · exact fun n => ck_none _
  · exact fun n i => ck_int _ i
  · exact fun n s h => by rw [ck_str]; exact h
  · exact fun n xs h ih => by rw [ck_tup, List.all_eq_true]; exact ih
theorem ck_mono {n m : Nat} {d : PyData} (h : ck n d = true) (l : n ≤ m) : ck m d = true := by
  induction l with
  | refl => exact h
  | step _ ih => exact ck_succ _ _ ih
theorem all_plain {n : Nat} {ds : List PyData} (h : ∀ d ∈ ds, d.plain = true ∧ d.canLay0 = true ∧ d.depth ≤ n) : PyData.plainAll ds = true ∧ PyData.canLayAll0 ds = true ∧ PyData.depthAll ds ≤ n := by
  induction ds with
  | nil => exact ⟨rfl, rfl, Nat.zero_le _⟩
  | cons x xs ih =>
    obtain ⟨a, b, c⟩ := ih fun y hy => h y (List.mem_cons_of_mem _ hy)
    obtain ⟨a', b', c'⟩ := h x (List.mem_cons_self ..)
    refine ⟨by simp [PyData.plainAll, a, a'], by simp [PyData.canLayAll0, b, b'], ?_⟩
    simp only [PyData.depthAll]
    omega
theorem ck_plain (n : Nat) (d : PyData) (h : ck n d = true) : d.plain = true ∧ d.canLay0 = true ∧ d.depth ≤ n := by
  refine ck_rec (P := fun n d => d.plain = true ∧ d.canLay0 = true ∧ d.depth ≤ n) ?_ ?_ ?_ ?_ n d h
  · exact fun n => ⟨rfl, rfl, Nat.zero_le _⟩
  · exact fun n i => ⟨rfl, rfl, Nat.zero_le _⟩
  · exact fun n s h => ⟨rfl, h, Nat.zero_le _⟩
  · intro n xs h ih
    obtain ⟨a, b, c⟩ := all_plain ih
    refine ⟨by simpa [PyData.plain] using a, by simpa [PyData.canLay0] using b, ?_⟩
    simp only [PyData.depth]
    omega
theorem ck_okD {n : Nat} {d : PyData} (h : ck n d = true) (l : n ≤ 64) : okD d = true := by
  obtain ⟨a, b, c⟩ := ck_plain n d h
  simp only [okD, a, Bool.true_and, decide_eq_true_eq]
  omega
theorem ck_shaped {n : Nat} {d : PyData} (h : ck n d = true) (l : n ≤ 64) : SeqAt.shaped d = true := by
  obtain ⟨a, b, c⟩ := ck_plain n d h
  simp only [SeqAt.shaped, b, Bool.true_and, decide_eq_true_eq]
  omega
theorem cks_plain {n : Nat} {ds : List PyData} (h : ∀ d ∈ ds, ck n d = true) : PyData.plainAll ds = true ∧ PyData.canLayAll0 ds = true ∧ PyData.depthAll ds ≤ n := all_plain fun d hd => ck_plain n d (h d hd)
theorem all_key {n : Nat} {ds : List PyData} (h : ∀ d ∈ ds, ∃ k, keyD d = some k ∧ k.depth ≤ n) : ∃ ks, keyDs ds = some ks ∧ NestedKey.depthAll ks ≤ n := by
  induction ds with
  | nil => exact ⟨[], rfl, Nat.zero_le _⟩
  | cons x xs ih =>
    obtain ⟨ks, a, b⟩ := ih fun y hy => h y (List.mem_cons_of_mem _ hy)
    obtain ⟨k, a', b'⟩ := h x (List.mem_cons_self ..)
    refine ⟨k :: ks, by simp [keyDs, a, a'], ?_⟩
    simp only [NestedKey.depthAll]
    omega
theorem ck_key (n : Nat) (d : PyData) (h : ck n d = true) : ∃ k, keyD d = some k ∧ k.depth ≤ n := by
  refine ck_rec (P := fun n d => ∃ k, keyD d = some k ∧ k.depth ≤ n) ?_ ?_ ?_ ?_ n d h
  · exact fun n => ⟨.none, rfl, Nat.zero_le _⟩
  · exact fun n i => ⟨.num i, rfl, Nat.zero_le _⟩
  · exact fun n s h => ⟨.text s, rfl, Nat.zero_le _⟩
  · intro n xs h ih
    obtain ⟨ks, a, b⟩ := all_key ih
    refine ⟨.tup ks, by simp [keyD, a], ?_⟩
    simp only [NestedKey.depth]
    omega
theorem ck_keyOk {n : Nat} {d : PyData} (h : ck n d = true) (l : n ≤ 8) : keyOk d := by
  obtain ⟨k, a, b⟩ := ck_key n d h
  exact ⟨k, a, Nat.le_trans b l⟩
theorem keyDs_inj {P P' : PyData → Prop} (inj : ∀ a b, P a → P' b → keyD a = keyD b → a = b) (so : ∀ a, P a → ∃ k, keyD a = some k) (so' : ∀ a, P' a → ∃ k, keyD a = some k) : ∀ xs ys : List PyData, (∀ x ∈ xs, P x) → (∀ y ∈ ys, P' y) → keyDs xs = keyDs ys → xs = ys
  | [], [], _, _, _ => rfl
  | [], y :: ys, _, hy, e => by
    obtain ⟨ks, q, _⟩ := all_key (n := 0) (ds := []) (by simp)
    obtain ⟨k, a⟩ := so' y (hy y (List.mem_cons_self ..))
    simp only [keyDs, a] at e
    split at e
    · cases e
    · cases e
  | x :: xs, [], hx, _, e => by
    obtain ⟨k, a⟩ := so x (hx x (List.mem_cons_self ..))
    simp only [keyDs, a] at e
    split at e
    · cases e
    · cases e
  | x :: xs, y :: ys, hx, hy, e => by
    have some_of : ∀ {Q : PyData → Prop}, (∀ a, Q a → ∃ k, keyD a = some k) → ∀ l : List PyData, (∀ x ∈ l, Q x) → ∃ ks, keyDs l = some ks := by
      intro Q so l hl
      induction l with
      | nil => exact ⟨[], rfl⟩
      | cons z zs ih =>
        obtain ⟨ks, a⟩ := ih fun y hy => hl y (List.mem_cons_of_mem _ hy)
        obtain ⟨k, b⟩ := so z (hl z (List.mem_cons_self ..))
        exact ⟨k :: ks, by simp [keyDs, a, b]⟩
    obtain ⟨k, a⟩ := so x (hx x (List.mem_cons_self ..))
    obtain ⟨k', a'⟩ := so' y (hy y (List.mem_cons_self ..))
    obtain ⟨ks, b⟩ := some_of so xs fun y hy => hx y (List.mem_cons_of_mem _ hy)
    obtain ⟨ks', b'⟩ := some_of so' ys fun z hz => hy z (List.mem_cons_of_mem _ hz)
    simp only [keyDs, a, a', b, b', Option.some.injEq, List.cons.injEq] at e
    rw [inj x y (hx x (List.mem_cons_self ..)) (hy y (List.mem_cons_self ..)) (by rw [a, a', e.1]), keyDs_inj inj so so' xs ys (fun y hy => hx y (List.mem_cons_of_mem _ hy)) (fun z hz => hy z (List.mem_cons_of_mem _ hz)) (by rw [b, b', e.2])]
theorem ck_inj (n : Nat) (a b : PyData) (ha : ck n a = true) (m : Nat) (hb : ck m b = true) (e : keyD a = keyD b) : a = b := by
  refine ck_rec (P := fun n a => ∀ (m : Nat) (b : PyData), ck m b = true → keyD a = keyD b → a = b) ?_ ?_ ?_ ?_ n a ha m b hb e
  · intro n m b hb e
    refine ck_rec (P := fun _ b => keyD PyData.none = keyD b → PyData.none = b) ?_ ?_ ?_ ?_ m b hb e
    · exact fun _ _ => rfl
    · exact fun _ _ z => by simp [keyD] at z
    · exact fun _ _ _ z => by simp [keyD] at z
    · intro _ xs h _ z
      obtain ⟨ks, a, _⟩ := all_key fun d hd => ck_key _ d (h d hd)
      simp [keyD, a] at z
  · intro n i m b hb e
    refine ck_rec (P := fun _ b => keyD (.int i) = keyD b → .int i = b) ?_ ?_ ?_ ?_ m b hb e
    · exact fun _ z => by simp [keyD] at z
    · exact fun _ _ z => by simpa [keyD] using z
    · exact fun _ _ _ z => by simp [keyD] at z
    · intro _ xs h _ z
      obtain ⟨ks, a, _⟩ := all_key fun d hd => ck_key _ d (h d hd)
      simp [keyD, a] at z
  · intro n i _ m b hb e
    refine ck_rec (P := fun _ b => keyD (.str i) = keyD b → .str i = b) ?_ ?_ ?_ ?_ m b hb e
    · exact fun _ z => by simp [keyD] at z
    · exact fun _ _ z => by simp [keyD] at z
    · exact fun _ _ _ z => by simpa [keyD] using z
    · intro _ xs h _ z
      obtain ⟨ks, a, _⟩ := all_key fun d hd => ck_key _ d (h d hd)
      simp [keyD, a] at z
  · intro n xs hx ih m b hb e
    obtain ⟨ks, a, _⟩ := all_key fun d hd => ck_key _ d (hx d hd)
    refine ck_rec (P := fun _ b => keyD (.tuple xs) = keyD b → .tuple xs = b) ?_ ?_ ?_ ?_ m b hb e
    · exact fun _ z => by simp [keyD, a] at z
    · exact fun _ _ z => by simp [keyD, a] at z
    · exact fun _ _ _ z => by simp [keyD, a] at z
    · intro m ys h _ z
      obtain ⟨ks', a', _⟩ := all_key fun d hd => ck_key _ d (h d hd)
      simp only [keyD, a, a', Option.map_some, Option.some.injEq, NestedKey.tup.injEq] at z
      rw [keyDs_inj (P := fun d => (∃ k, keyD d = some k) ∧ ∀ (m : Nat) (b : PyData), ck m b = true → keyD d = keyD b → d = b) (P' := fun d => ck m d = true) (fun p q hp hq => hp.2 m q hq) (fun p hp => hp.1) (fun p hp => by
        obtain ⟨k, a, _⟩ := ck_key m p hp
        exact ⟨k, a⟩) xs ys (fun x hx' => ⟨(ck_key _ x (hx x hx')).elim fun k q => ⟨k, q.1⟩, ih x hx'⟩) h (by rw [a, a', z])]
theorem eqvAll_iff : ∀ xs ys : List PyData, (∀ x ∈ xs, ∀ y ∈ ys, (PyData.eqv x y = true ↔ x = y)) → (PyData.eqvAll xs ys = true ↔ xs = ys)
  | [], [], _ => by simp [PyData.eqvAll]
  | [], y :: ys, _ => by simp [PyData.eqvAll]
  | x :: xs, [], _ => by simp [PyData.eqvAll]
  | x :: xs, y :: ys, h => by
    have ih := eqvAll_iff xs ys fun a ha b hb => h a (List.mem_cons_of_mem _ ha) b (List.mem_cons_of_mem _ hb)
    have h0 := h x (List.mem_cons_self ..) y (List.mem_cons_self ..)
    simp [PyData.eqvAll, ih, h0]
theorem ck_eqv (n : Nat) (a b : PyData) (ha : ck n a = true) (m : Nat) (hb : ck m b = true) : PyData.eqv a b = true ↔ a = b := by
  refine ck_rec (P := fun n a => ∀ (m : Nat) (b : PyData), ck m b = true → (PyData.eqv a b = true ↔ a = b)) ?_ ?_ ?_ ?_ n a ha m b hb
  · intro n m b hb
    cases b <;> simp [PyData.eqv]
  · intro n i m b hb
    cases b with
    | bool _ => rw [ck_bool] at hb; cases hb
    | _ => simp [PyData.eqv]
  · intro n i _ m b hb
    cases b <;> simp [PyData.eqv]
  · intro n xs hx ih m b hb
    cases b with
    | tuple ys =>
      cases m with
      | zero => cases hb
      | succ m =>
        rw [ck_tup, List.all_eq_true] at hb
        simp only [PyData.eqv, PyData.tuple.injEq]
        exact eqvAll_iff xs ys fun x hx y hy => ih x hx m y (hb y hy)
    | _ => simp [PyData.eqv]
/-! ### dicts as lists -/
theorem putD_fresh {x : PyData} {v : W} : ∀ {kvs : List (PyData × W)}, lookD x kvs = none → putD x v kvs = kvs ++ [(x, v)]
  | [], _ => rfl
  | (k, u) :: r, e => by
    unfold lookD at e
    unfold putD
    split at e
    · cases e
    · rename_i q
      rw [if_neg q, putD_fresh e]
      rfl
theorem lookD_app {x : PyData} : ∀ (a b : List (PyData × W)), lookD x (a ++ b) = (match lookD x a with | some v => some v | none => lookD x b)
  | [], b => rfl
  | (k, u) :: r, b => by
    show lookD x ((k, u) :: (r ++ b)) = _
    rw [show lookD x ((k, u) :: (r ++ b)) = if keyD k = keyD x then some u else lookD x (r ++ b) from rfl, show lookD x ((k, u) :: r) = if keyD k = keyD x then some u else lookD x r from rfl]
    by_cases e : keyD k = keyD x
    · simp only [if_pos e]
    · simp only [if_neg e, lookD_app r b]
/-! ### pure comprehensions -/
theorem compL_map {chk : AH → Prop} {g : SemG} {me : SemE} {ρ : Env'} {h : AH} (f : W → W) (hc : chk h) : ∀ (ws : List W), (∀ x ∈ ws, ∃ ρ1, g x ρ = some ρ1 ∧ me ρ1 h = .ok (f x) h) → compL chk g tYesS me ρ ws h = .ok (ws.map f) h
  | [], _ => by simp [compL, hc]
  | x :: xs, k => by
    obtain ⟨ρ1, e1, e2⟩ := k x (List.mem_cons_self ..)
    have ih := compL_map f hc xs fun y hy => k y (List.mem_cons_of_mem _ hy)
    simp [compL, hc, e1, e2, ih]
theorem compL_filter {chk : AH → Prop} {g : SemG} {mt : SemT} {me : SemE} {ρ : Env'} {h : AH} (p : W → Bool) (f : W → W) (hc : chk h) : ∀ (ws : List W), (∀ x ∈ ws, ∃ ρ1, g x ρ = some ρ1 ∧ mt ρ1 h = .ok (p x) h ∧ (p x = true → me ρ1 h = .ok (f x) h)) → compL chk g mt me ρ ws h = .ok ((ws.filter p).map f) h
  | [], _ => by simp [compL, hc]
  | x :: xs, k => by
    obtain ⟨ρ1, e1, e2, e3⟩ := k x (List.mem_cons_self ..)
    have ih := compL_filter p f hc xs fun y hy => k y (List.mem_cons_of_mem _ hy)
    cases q : p x with
    | true => simp [compL, hc, e1, e2, q, e3 q, ih]
    | false => simp [compL, hc, e1, e2, q, ih]
/-- a comprehension that changes what it may -/
theorem compL_inv {chk : AH → Prop} {g : SemG} {me : SemE} {ρ : Env'} (I : AH → Prop) (P : W → Prop) (hc : ∀ h, I h → chk h) : ∀ (ws : List W) (h : AH), I h → (∀ x ∈ ws, ∃ ρ1, g x ρ = some ρ1 ∧ ∀ h, I h → ∃ y h', me ρ1 h = .ok y h' ∧ I h' ∧ P y) → ∃ ys h', compL chk g tYesS me ρ ws h = .ok ys h' ∧ I h' ∧ ys.length = ws.length ∧ ∀ y ∈ ys, P y
  | [], h, i, _ => ⟨[], h, by simp [compL, hc h i], i, rfl, fun _ z => by simp at z⟩
  | x :: xs, h, i, k => by
    obtain ⟨ρ1, e1, e2⟩ := k x (List.mem_cons_self ..)
    obtain ⟨y, h1, e3, i1, py⟩ := e2 h i
    obtain ⟨ys, h2, e4, i2, l, q⟩ := compL_inv I P hc xs h1 i1 fun y hy => k y (List.mem_cons_of_mem _ hy)
    refine ⟨y :: ys, h2, by simp [compL, hc h i, e1, e3, e4], i2, by simp [l], fun z hz => ?_⟩
    rcases List.mem_cons.mp hz with rfl | hz
    · exact py
    · exact q z hz
/-- a loop that keeps J -/
theorem forL_inv {chk : AH → Prop} {g : SemG} {b : SemS} (J : Env' → AH → Prop) (hc : ∀ ρ h, J ρ h → chk h) : ∀ (ws : List W) (ρ : Env') (h : AH), J ρ h → (∀ x ∈ ws, ∀ ρ h, J ρ h → ∃ ρ1, g x ρ = some ρ1 ∧ ∃ ρ' h', b ρ1 h = .nx ρ' h' ∧ J ρ' h') → ∃ ρ' h', forL chk g b ws ρ h = .nx ρ' h' ∧ J ρ' h'
  | [], ρ, h, j, _ => ⟨ρ, h, by simp [forL, hc ρ h j], j⟩
  | x :: xs, ρ, h, j, k => by
    obtain ⟨ρ1, e1, ρ2, h2, e2, j2⟩ := k x (List.mem_cons_self ..) ρ h j
    obtain ⟨ρ3, h3, e3, j3⟩ := forL_inv J hc xs ρ2 h2 j2 fun y hy => k y (List.mem_cons_of_mem _ hy)
    exact ⟨ρ3, h3, by simp [forL, hc ρ h j, e1, e2, e3], j3⟩
/-- .. that counts -/
theorem forL_at {chk : AH → Prop} {g : SemG} {b : SemS} (J : Nat → Env' → AH → Prop) (hc : ∀ i ρ h, J i ρ h → chk h) : ∀ (ws : List W) (i : Nat) (ρ : Env') (h : AH), J i ρ h → (∀ (j : Nat) (x : W), ws[j]? = some x → ∀ ρ h, J (i + j) ρ h → ∃ ρ1, g x ρ = some ρ1 ∧ ∃ ρ' h', b ρ1 h = .nx ρ' h' ∧ J (i + j + 1) ρ' h') → ∃ ρ' h', forL chk g b ws ρ h = .nx ρ' h' ∧ J (i + ws.length) ρ' h'
  | [], i, ρ, h, j, _ => ⟨ρ, h, by simp [forL, hc i ρ h j], j⟩
  | x :: xs, i, ρ, h, j, k => by
    obtain ⟨ρ1, e1, ρ2, h2, e2, j2⟩ := k 0 x rfl ρ h j
    obtain ⟨ρ3, h3, e3, j3⟩ := forL_at J hc xs (i + 1) ρ2 h2 j2 fun n y hy ρ h q => by
      have := k (n + 1) y (by simpa using hy) ρ h (by rw [show i + (n + 1) = i + 1 + n by omega]; exact q)
      rw [show i + (n + 1) = i + 1 + n by omega] at this
      exact this
    exact ⟨ρ3, h3, by simp [forL, hc i ρ h j, e1, e2, e3], by rw [List.length_cons, show i + (xs.length + 1) = i + 1 + xs.length by omega]; exact j3⟩
end Q

set_option Elab.async false
set_option maxRecDepth 100000
set_option linter.all false
set_option autoImplicit false
/-! K19b: the plain law of k15. -/
namespace Q
open PySem PySem.Spec PyProof.Rows L2 LamX

theorem isiB_d (x : PyData) (T : String) (h : AH) : isiO (isiB CLS T) (.d x) h = (subB (typD x) T).map bO := by
  simp [isiO, typW, isiB]
@[simp] theorem isi_int (x : PyData) (h : AH) : isiO (isiB CLS "int") (.d x) h = some (.d (.bool (match x with | .int _ => true | .bool _ => true | _ => false))) := by
  rw [isiB_d]; cases x <;> simp [typD, subB, basics, bO]
@[simp] theorem isi_bool (x : PyData) (h : AH) : isiO (isiB CLS "bool") (.d x) h = some (.d (.bool (match x with | .bool _ => true | _ => false))) := by
  rw [isiB_d]; cases x <;> simp [typD, subB, basics, bO]
@[simp] theorem isi_str (x : PyData) (h : AH) : isiO (isiB CLS "str") (.d x) h = some (.d (.bool (match x with | .str _ => true | _ => false))) := by
  rw [isiB_d]; cases x <;> simp [typD, subB, basics, bO]
@[simp] theorem isi_tuple (x : PyData) (h : AH) : isiO (isiB CLS "tuple") (.d x) h = some (.d (.bool (match x with | .tuple _ => true | _ => false))) := by
  rw [isiB_d]; cases x <;> simp [typD, subB, basics, bO]
@[simp] theorem lt_ev (i j : Int) (h : AH) : ltO (.d (.int i)) (.d (.int j)) h = some (.d (.bool (decide (i < j)))) := rfl
@[simp] theorem le_ev (i j : Int) (h : AH) : leO (.d (.int i)) (.d (.int j)) h = some (.d (.bool (decide (i ≤ j)))) := rfl
@[simp] theorem gt_ev (i j : Int) (h : AH) : gtO (.d (.int i)) (.d (.int j)) h = some (.d (.bool (decide (j < i)))) := rfl
@[simp] theorem ge_ev (i j : Int) (h : AH) : geO (.d (.int i)) (.d (.int j)) h = some (.d (.bool (decide (j ≤ i)))) := rfl
@[simp] theorem sub_ev (i j : Int) (h : AH) : subO (.d (.int i)) (.d (.int j)) h = some (.d (.int (i - j))) := rfl
@[simp] theorem add_ev (i j : Int) (h : AH) : addO (.d (.int i)) (.d (.int j)) h = some (.d (.int (i + j))) := rfl
@[simp] theorem neg_ev (i : Int) (h : AH) : negO (.d (.int i)) h = some (.d (.int (-i))) := rfl
@[simp] theorem int_ev (i : Int) (h : AH) : intO [.d (.int i)] h = some (.d (.int i)) := rfl
@[simp] theorem abs_ev (i : Int) (h : AH) : absO [.d (.int i)] h = some (.d (.int (if i < 0 then -i else i))) := rfl
@[simp] theorem ixT_ev (ds : List PyData) (i : Int) (h : AH) : ixO (.d (.tuple ds)) (.d (.int i)) h = (atI ds i).map .d := rfl
@[simp] theorem ixL_ev (ds : List PyData) (i : Int) (h : AH) : ixO (.d (.list ds)) (.d (.int i)) h = (atI ds i).map .d := rfl
@[simp] theorem lenT_ev (ds : List PyData) (h : AH) : lenO [.d (.tuple ds)] h = some (.d (.int (ds.length : Nat))) := rfl
@[simp] theorem lenLd_ev (ds : List PyData) (h : AH) : lenO [.d (.list ds)] h = some (.d (.int (ds.length : Nat))) := rfl
@[simp] theorem isN_ev (x : PyData) (h : AH) : isO (.d x) (.d .none) h = some (.d (.bool (match x with | .none => true | _ => false))) := by
  cases x <;> rfl
theorem eqD_ev (x y : PyData) (h : AH) (o : okD x = true) (o' : okD y = true) : eqO (.d x) (.d y) h = some (.d (.bool (x.eqv y))) := by
  simp [eqO, eqB, toD, o, o', bO]
theorem neD_ev (x y : PyData) (h : AH) (o : okD x = true) (o' : okD y = true) : neO (.d x) (.d y) h = some (.d (.bool (!x.eqv y))) := by
  simp [neO, eqB, toD, o, o', bO]
@[simp] theorem eqI_ev (x y : Int) (h : AH) : eqO (.d (.int x)) (.d (.int y)) h = some (.d (.bool (decide (x = y)))) := by
  rw [eqD_ev _ _ _ (by rfl) (by rfl)]; by_cases e : x = y <;> simp [PyData.eqv, e]
@[simp] theorem neI_ev (x y : Int) (h : AH) : neO (.d (.int x)) (.d (.int y)) h = some (.d (.bool (!decide (x = y)))) := by
  rw [neD_ev _ _ _ (by rfl) (by rfl)]; by_cases e : x = y <;> simp [PyData.eqv, e]
@[simp] theorem eqS_ev (x y : Str) (h : AH) : eqO (.d (.str x)) (.d (.str y)) h = some (.d (.bool (x == y))) := by
  rw [eqD_ev _ _ _ (by rfl) (by rfl)]; simp [PyData.eqv]
theorem eqv_str (a b : Str) : (PyData.str a).eqv (.str b) = (a == b) := by simp [PyData.eqv]
theorem in2_ev (s a b : Str) (h : AH) : inO (.d (.str s)) (.d (.tuple [.str a, .str b])) h = some (.d (.bool (a == s || b == s))) := by
  have e : inB (.d (.str s)) (.d (.tuple [.str a, .str b])) h = some ([PyData.str a, .str b].any fun z => z.eqv (.str s)) := by
    simp only [inB, toD_d]
    rw [if_pos (by simp [PyData.plain, PyData.plainAll, PyData.depth])]
  rw [inO, e]
  simp only [List.any_cons, List.any_nil, eqv_str, Bool.or_false, Option.map, bO]
/-- a number from low on, below 10**18 -/
def isNum (x : PyData) (low : Int) : Bool := match x with
  | .int i => decide (low ≤ i) && decide (i < 1000000000000000000)
  | _ => false
@[simp] theorem ev_is_number (x : PyData) (low : Int) (h : AH) : f_is_number [.d x, .d (.int low)] h = .ok (.d (.bool (isNum x low))) h := by
  unfold f_is_number b_is_number
  cases x with
  | int i =>
    by_cases h1 : low ≤ i <;> simp [mkFn, isNum, h1]
  | _ => simp [mkFn, isNum]
def nameForm (x : PyData) : Bool := match x with
  | .tuple [.str s, b] => (s == "name") && isNum b 0
  | _ => false
@[simp] theorem ev_has_name_form (x : PyData) (h : AH) : f_has_name_form [.d x] h = .ok (.d (.bool (nameForm x))) h := by
  unfold f_has_name_form b_has_name_form
  cases x with
  | tuple ds =>
    rcases ds with _ | ⟨a, _ | ⟨b, _ | ⟨c, ds⟩⟩⟩
    · simp [mkFn, nameForm]
    · simp [mkFn, nameForm]
    · cases a with
      | str s =>
        cases e : (s == Str.ofString "name") <;> simp [mkFn, nameForm, e]
      | _ => simp [mkFn, nameForm]
    · have e : ¬ ((ds.length : Int) + 1 + 1 + 1 = 2) := by omega
      simp [mkFn, nameForm, e]
  | _ => simp [mkFn, nameForm]
def isPlain (x : PyData) : Bool := match x with
  | .none => true
  | .str _ => true
  | .int i => decide (i.natAbs < 1000000000000000000)
  | _ => false
@[simp] theorem ev_is_plain (x : PyData) (h : AH) : f_is_plain [.d x] h = .ok (.d (.bool (isPlain x))) h := by
  unfold f_is_plain b_is_plain
  cases x with
  | int i =>
    simp [mkFn, isPlain]
    split <;> omega
  | _ => simp [mkFn, isPlain]
def isWho (x : PyData) : Bool := match x with
  | .tuple [.str s, b] => (s == "owner" || s == "member") && isNum b 0
  | _ => false
@[simp] theorem ev_is_who (x : PyData) (h : AH) : f_is_who [.d x] h = .ok (.d (.bool (isWho x))) h := by
  unfold f_is_who b_is_who
  cases x with
  | tuple ds =>
    rcases ds with _ | ⟨a, _ | ⟨b, _ | ⟨c, ds⟩⟩⟩
    · simp [mkFn, isWho]
    · simp [mkFn, isWho]
    · cases a with
      | str s =>
        cases e : (s == Str.ofString "owner") <;> cases e' : (s == Str.ofString "member") <;>
          simp [mkFn, isWho, in2_ev, e, e', BEq.comm (b := s)]
      | _ => simp [mkFn, isWho]
    · have e : ¬ ((ds.length : Int) + 1 + 1 + 1 = 2) := by omega
      simp [mkFn, isWho, e]
  | _ => simp [mkFn, isWho]
end Q

set_option Elab.async false
set_option maxRecDepth 100000
set_option linter.all false
set_option autoImplicit false
/-! K19c: Trust. -/
namespace Q
open PySem PySem.Spec PyProof.Rows L2 LamX
open Classical
theorem ck_owner (n : Nat) : ck n (.str (Str.ofString "owner")) = true := by rw [ck_str]; decide +kernel
theorem ck_member (n : Nat) : ck n (.str (Str.ofString "member")) = true := by rw [ck_str]; decide +kernel
theorem ck_name (n : Nat) : ck n (.str (Str.ofString "name")) = true := by rw [ck_str]; decide +kernel

/-- ("name", i) -/
def nm (i : Nat) : PyData := .tuple [.str "name", .int (i : Int)]
/-- a name of one of the first n contents -/
def isNm (n : Nat) (x : PyData) : Bool := match x with
  | .tuple [.str s, .int i] => (s == "name") && (decide (0 ≤ i) && decide (i < 1000000000000000000)) && decide (i < (n : Int))
  | _ => false
def nmsFrom : Nat → List PyData → List (PyData × W)
  | _, [] => []
  | i, x :: xs => (x, .d (nm i)) :: nmsFrom (i + 1) xs
theorem nmsFrom_app : ∀ (i : Nat) (xs ys : List PyData), nmsFrom i (xs ++ ys) = nmsFrom i xs ++ nmsFrom (i + xs.length) ys
  | i, [], ys => by simp [nmsFrom]
  | i, x :: xs, ys => by simp [nmsFrom, nmsFrom_app (i + 1) xs ys, Nat.add_assoc, Nat.add_comm 1]
theorem nmsFrom_len : ∀ (i : Nat) (xs : List PyData), (nmsFrom i xs).length = xs.length
  | i, [] => rfl
  | i, x :: xs => by simp [nmsFrom, nmsFrom_len (i + 1) xs]
theorem lookD_nms {n m : Nat} {x : PyData} (hx : ck n x = true) : ∀ (i : Nat) (cs : List PyData), (∀ c ∈ cs, ck m c = true) → lookD x (nmsFrom i cs) = (idxD x cs i).map fun j => .d (nm j)
  | i, [], _ => rfl
  | i, c :: cs, h => by
    have hc := h c (List.mem_cons_self ..)
    have ih := lookD_nms hx (i + 1) cs fun y hy => h y (List.mem_cons_of_mem _ hy)
    rw [show lookD x (nmsFrom i (c :: cs)) = if keyD c = keyD x then some (.d (nm i)) else lookD x (nmsFrom (i + 1) cs) from rfl, idxD, ih]
    by_cases e : c = x
    · subst e
      rw [if_pos rfl, if_pos ((ck_eqv m c c hc n hx).mpr rfl)]
      rfl
    · rw [if_neg fun z => e (ck_inj m c x hc n hx z), if_neg fun z => e ((ck_eqv m c x hc n hx).mp z)]
theorem idxD_none {n m : Nat} {x : PyData} (hx : ck n x = true) : ∀ (i : Nat) (cs : List PyData), (∀ c ∈ cs, ck m c = true) → (idxD x cs i = none ↔ x ∉ cs)
  | i, [], _ => by simp [idxD]
  | i, c :: cs, h => by
    have hc := h c (List.mem_cons_self ..)
    have ih := idxD_none hx (i + 1) cs fun y hy => h y (List.mem_cons_of_mem _ hy)
    unfold idxD
    by_cases e : c = x
    · subst e
      rw [if_pos ((ck_eqv m c c hc n hx).mpr rfl)]
      simp
    · rw [if_neg fun z => e ((ck_eqv m c x hc n hx).mp z), ih]
      simp [Ne.symm e]
theorem idxD_app_new {n m : Nat} {x : PyData} (hx : ck n x = true) : ∀ (i : Nat) (cs : List PyData), (∀ c ∈ cs, ck m c = true) → x ∉ cs → idxD x (cs ++ [x]) i = some (i + cs.length)
  | i, [], _, _ => by simp [idxD, (ck_eqv n x x hx n hx).mpr rfl]
  | i, c :: cs, h, nx => by
    have hc := h c (List.mem_cons_self ..)
    have ih := idxD_app_new hx (i + 1) cs (fun y hy => h y (List.mem_cons_of_mem _ hy)) fun z => nx (List.mem_cons_of_mem _ z)
    show idxD x (c :: (cs ++ [x])) i = _
    unfold idxD
    rw [if_neg fun z => nx (by rw [(ck_eqv m c x hc n hx).mp z]; exact List.mem_cons_self ..), ih, List.length_cons]
    congr 1
    omega
/-- what a Trust holds: its contents in order, its seals -/
structure TrAt (h : AH) (t : Nat) (cs sl : List PyData) : Prop where
  fo : h.f t = some (.ins "Trust" [("contents", .ref (t + 1)), ("names", .ref (t + 2)), ("seals", .ref (t + 3))])
  fc : h.f (t + 1) = some (.lst (cs.map .d))
  fm : h.f (t + 2) = some (.dct (nmsFrom 0 cs))
  fs : h.f (t + 3) = some (.dct (sl.map fun x => (x, .d (.bool true))))
  lt : t + 3 < h.n
  kc : ∀ x ∈ cs, ck 6 x = true
  ks : ∀ x ∈ sl, ck 3 x = true
  nd : cs.Nodup
theorem TrAt.same {h h' : AH} {t : Nat} {cs sl : List PyData} {S : List Nat} (r : TrAt h t cs sl) (e : Same S h h') (d : ∀ j ∈ S, j < t ∨ t + 3 < j) : TrAt h' t cs sl := by
  have q : ∀ k, k ≤ 3 → h'.f (t + k) = h.f (t + k) := fun k hk => e.2 _ (by have := r.lt; omega) fun z => by
    have := d _ z
    omega
  exact ⟨(q 0 (by omega)).trans r.fo, (q 1 (by omega)).trans r.fc, (q 2 (by omega)).trans r.fm, (q 3 (by omega)).trans r.fs, Nat.lt_of_lt_of_le r.lt e.1, r.kc, r.ks, r.nd⟩
@[simp] theorem noS_nil (f : String) : noS f [] = true := rfl
@[simp] theorem noS_cons (f g : String) (w : W) (fs : List (String × W)) : noS f ((g, w) :: fs) = (g != f && noS f fs) := rfl
theorem isNm_nm {n i : Nat} (hi : i < n) (hl : (n : Int) < 1000000000000000000) : isNm n (nm i) = true := by
  have h0 : (0 : Int) ≤ (i : Int) := by omega
  have h1 : (i : Int) < 1000000000000000000 := by omega
  have h2 : (i : Int) < (n : Int) := by omega
  show ((Str.ofString "name" == Str.ofString "name") && (decide ((0 : Int) ≤ (i : Int)) && decide ((i : Int) < 1000000000000000000)) && decide ((i : Int) < (n : Int))) = true
  rw [decide_eq_true h0, decide_eq_true h1, decide_eq_true h2, beq_self_eq_true]
  rfl
@[simp] theorem lookS_here (f : String) (w : W) (fs : List (String × W)) : lookS f ((f, w) :: fs) = some w := by simp [lookS]
theorem ev_init {h : AH} {t : Nat} (ht : h.f t = some (.ins "Trust" [])) (lt : h.n = t + 1) : ∃ h', f_Trust___init__ [.ref t] h = .ok (.d .none) h' ∧ TrAt h' t [] [] ∧ Same [t] h h' := by
  have e0 : t ≠ h.n := by omega
  have e1 : t ≠ h.n + 1 := by omega
  have e2 : t ≠ h.n + 1 + 1 := by omega
  have e3 : t ≠ t + 1 := by omega
  have e4 : t ≠ t + 1 + 1 := by omega
  have e5 : t ≠ t + 1 + 1 + 1 := by omega
  refine ⟨((((((h.new (.lst [])).set t (.ins "Trust" [("contents", .ref (t + 1))])).new (.dct [])).set t (.ins "Trust" [("contents", .ref (t + 1)), ("names", .ref (t + 2))])).new (.dct [])).set t (.ins "Trust" [("contents", .ref (t + 1)), ("names", .ref (t + 2)), ("seals", .ref (t + 3))])), ?_, ?_, ?_⟩
  · simp [f_Trust___init__, b_Trust___init__, mkFn, ht, e0, e1, e2, e3, e4, e5, putS, lt]
  · refine ⟨?_, ?_, ?_, ?_, ?_, by simp, by simp, by simp⟩ <;> simp [lt, nmsFrom]
  · exact (((((((Same.refl _ h).new).set (by simp)).new).set (by simp)).new).set (by simp))
theorem isNm_iff (n : Nat) (x : PyData) : isNm n x = (nameForm x && (match x with | .tuple [_, .int i] => decide (i < (n : Int)) | _ => false)) := by
  cases x with
  | tuple ds =>
    rcases ds with _ | ⟨a, _ | ⟨b, _ | ⟨c, ds⟩⟩⟩
    · rfl
    · simp [isNm, nameForm]
    · cases a with
      | str s => cases b <;> simp [isNm, nameForm, isNum]
      | _ => simp [isNm, nameForm]
    · simp [isNm, nameForm]
  | _ => rfl
theorem ev_is_name {h : AH} {t : Nat} {cs sl : List PyData} (r : TrAt h t cs sl) (x : PyData) : f_Trust_is_name [.ref t, .d x] h = .ok (.d (.bool (isNm cs.length x))) h := by
  unfold f_Trust_is_name b_Trust_is_name
  rw [isNm_iff]
  cases e : nameForm x with
  | false => simp [mkFn, e]
  | true =>
    unfold nameForm isNum at e
    split at e
    · rename_i s b
      split at e
      · rename_i i
        simp [mkFn, nameForm, isNum, r.fo, r.fc, lenO, lenL] at e ⊢
        simp [e, r.fc]
      · simp at e
    · cases e
@[simp] theorem mkFn_def (n : Nat) (b : SemS) (ws : List W) (h : AH) : mkFn n b ws h = (match b (ws.map some ++ List.replicate (n - ws.length) none) h with
  | .nx _ h' => .ok (.d .none) h'
  | .rt x h' => .ok x h'
  | .err c fs h' => .err c fs h'
  | _ => .bad) := rfl
theorem ix_at {h : AH} {c : Nat} {cs : List PyData} (hc : h.f c = some (.lst (cs.map .d))) {i : Nat} {x : PyData} (hi : cs[i]? = some x) : ixO (.ref c) (.d (.int (i : Int))) h = some (.d x) := by
  have hb : i < cs.length := by
    rw [List.getElem?_eq_some_iff] at hi
    exact hi.1
  simp only [ixO, hc, atI_map]
  simp only [atI, ixN]
  rw [if_pos (by omega), if_pos (by omega)]
  simp [hi]
theorem ev_content_of {h : AH} {t : Nat} {cs sl : List PyData} (r : TrAt h t cs sl) {y x : PyData} {j : Int} (e : isNm cs.length y = true) (e1 : ixO (.d y) (.d (.int 1)) h = some (.d (.int j))) (e2 : ixO (.ref (t + 1)) (.d (.int j)) h = some (.d x)) : f_Trust_content [.ref t, .d y] h = .ok (.d x) h := by
  simp [f_Trust_content, b_Trust_content, r.fo, ev_is_name r, e, e1, e2]
theorem ev_content {h : AH} {t : Nat} {cs sl : List PyData} (r : TrAt h t cs sl) {i : Nat} {x : PyData} (hi : cs[i]? = some x) (hl : (cs.length : Int) < 1000000000000000000) : f_Trust_content [.ref t, .d (nm i)] h = .ok (.d x) h := by
  have hb : i < cs.length := by
    rw [List.getElem?_eq_some_iff] at hi
    exact hi.1
  exact ev_content_of r (isNm_nm hb hl) (by rw [nm, ixT_ev, at1]; rfl) (ix_at r.fc hi)
theorem ev_content_bad {h : AH} {t : Nat} {cs sl : List PyData} (r : TrAt h t cs sl) {x : PyData} (e : isNm cs.length x = false) : f_Trust_content [.ref t, .d x] h = .err "BadName" [] h := by
  simp [f_Trust_content, b_Trust_content, r.fo, ev_is_name r, e]
theorem isWho_ck {x : PyData} (h : isWho x = true) : ck 1 x = true := by
  unfold isWho isNum at h
  split at h
  · rename_i s b
    split at h
    · rw [ck_tup]
      simp only [Bool.and_eq_true, Bool.or_eq_true, beq_iff_eq] at h
      rcases h.1 with rfl | rfl <;> simp [ck_int, ck_owner, ck_member]
    · simp at h
  · cases h
theorem isNm_ck {n : Nat} {x : PyData} (h : isNm n x = true) : ck 1 x = true := by
  unfold isNm at h
  split at h
  · rename_i s b
    simp only [Bool.and_eq_true, beq_iff_eq] at h
    rcases h.1.1 with ⟨rfl, _⟩
    rw [ck_tup]
    simp [ck_int, ck_name]
  · cases h
theorem seals_look {x : PyData} (hx : ck 3 x = true) : ∀ {sl : List PyData}, (∀ y ∈ sl, ck 3 y = true) → lookD x (sl.map fun x => (x, W.d (.bool true))) = if x ∈ sl then some (.d (.bool true)) else none
  | [], _ => by simp [lookD]
  | y :: sl, k => by
    have ih := seals_look hx (sl := sl) fun z hz => k z (List.mem_cons_of_mem _ hz)
    have ky := k y (List.mem_cons_self ..)
    simp only [List.map_cons, lookD, ih]
    by_cases e : y = x
    · subst e
      simp
    · rw [if_neg fun z => e (ck_inj 3 y x ky 3 hx z)]
      simp [Ne.symm e]
theorem ev_seal {h : AH} {t : Nat} {cs sl : List PyData} (r : TrAt h t cs sl) {w x : PyData} (ew : isWho w = true) (ex : isNm cs.length x = true) (hl : sl.length < 1000000) : ∃ h' sl', f_Trust_seal [.ref t, .d w, .d x] h = .ok (.d .none) h' ∧ TrAt h' t cs sl' ∧ Same [t + 3] h h' ∧ (∀ y, y ∈ sl' ↔ y = PyData.tuple [w, x] ∨ y ∈ sl) ∧ sl'.length ≤ sl.length + 1 := by
  have kp : ck 3 (.tuple [w, x]) = true := by
    rw [ck_tup]
    simp [ck_mono (isWho_ck ew) (show 1 ≤ 2 by omega), ck_mono (isNm_ck ex) (show 1 ≤ 2 by omega)]
  have ok := ck_keyOk kp (by omega)
  by_cases e : PyData.tuple [w, x] ∈ sl
  · have put : ∀ l : List PyData, (∀ y ∈ l, ck 3 y = true) → .tuple [w, x] ∈ l → putD (.tuple [w, x]) (.d (.bool true)) (l.map fun x => (x, .d (.bool true))) = l.map fun x => (x, .d (.bool true)) := by
      intro l hk hm
      induction l with
      | nil => cases hm
      | cons z l ih =>
        simp only [List.map_cons, putD]
        by_cases q : z = .tuple [w, x]
        · rw [if_pos (by rw [q])]
        · rw [if_neg fun u => q (ck_inj 3 z _ (hk z (List.mem_cons_self ..)) 3 kp u), ih (fun y hy => hk y (List.mem_cons_of_mem _ hy))]
          rcases List.mem_cons.mp hm with u | u
          · exact absurd u.symm q
          · exact u
    refine ⟨h.set (t + 3) (.dct (sl.map fun x => (x, .d (.bool true)))), sl, ?_, ?_, (Same.refl _ h).set (by simp), ?_, by omega⟩
    · simp [f_Trust_seal, b_Trust_seal, r.fo, ev_is_name r, ew, ex, putIn, r.fs, ok, hl, put sl r.ks e, lookS]
    · refine ⟨?_, ?_, ?_, ?_, r.lt, r.kc, r.ks, r.nd⟩ <;> simp [r.fo, r.fc, r.fm]
    · intro y
      constructor
      · exact .inr
      · rintro (rfl | z)
        · exact e
        · exact z
  · have put := putD_fresh (v := .d (.bool true)) (x := .tuple [w, x]) (kvs := sl.map fun x => (x, .d (.bool true))) (by rw [seals_look kp r.ks, if_neg e])
    refine ⟨h.set (t + 3) (.dct ((sl ++ [PyData.tuple [w, x]]).map fun x => (x, .d (.bool true)))), sl ++ [PyData.tuple [w, x]], ?_, ?_, (Same.refl _ h).set (by simp), ?_, by simp⟩
    · simp [f_Trust_seal, b_Trust_seal, r.fo, ev_is_name r, ew, ex, putIn, r.fs, ok, hl, put, lookS]
    · refine ⟨?_, ?_, ?_, ?_, r.lt, r.kc, fun y hy => ?_, r.nd⟩
      · simp [r.fo]
      · simp [r.fc]
      · simp [r.fm]
      · simp
      · rcases List.mem_append.mp hy with q | q
        · exact r.ks y q
        · rw [List.mem_singleton.mp q]
          exact kp
    · intro y
      simp [or_comm]
theorem ev_seal_who {h : AH} {t : Nat} {cs sl : List PyData} (r : TrAt h t cs sl) {w x : PyData} (ew : isWho w = false) : f_Trust_seal [.ref t, .d w, .d x] h = .err "BadWho" [] h := by
  simp [f_Trust_seal, b_Trust_seal, ew]
theorem ev_seal_name {h : AH} {t : Nat} {cs sl : List PyData} (r : TrAt h t cs sl) {w x : PyData} (ew : isWho w = true) (ex : isNm cs.length x = false) : f_Trust_seal [.ref t, .d w, .d x] h = .err "BadName" [] h := by
  simp [f_Trust_seal, b_Trust_seal, ew, ex, r.fo, ev_is_name r]
theorem ev_sealed_who {h : AH} {t : Nat} {cs sl : List PyData} (r : TrAt h t cs sl) {w x : PyData} (ew : isWho w = false) : f_Trust_sealed [.ref t, .d w, .d x] h = .err "BadWho" [] h := by
  simp [f_Trust_sealed, b_Trust_sealed, ew]
theorem ev_sealed_name {h : AH} {t : Nat} {cs sl : List PyData} (r : TrAt h t cs sl) {w x : PyData} (ew : isWho w = true) (ex : isNm cs.length x = false) : f_Trust_sealed [.ref t, .d w, .d x] h = .err "BadName" [] h := by
  simp [f_Trust_sealed, b_Trust_sealed, ew, ex, r.fo, ev_is_name r]
theorem ev_sealed {h : AH} {t : Nat} {cs sl : List PyData} (r : TrAt h t cs sl) {w x : PyData} (ew : isWho w = true) (ex : isNm cs.length x = true) : f_Trust_sealed [.ref t, .d w, .d x] h = .ok (.d (.bool (decide (PyData.tuple [w, x] ∈ sl)))) h := by
  have kp : ck 3 (.tuple [w, x]) = true := by
    rw [ck_tup]
    simp [ck_mono (isWho_ck ew) (show 1 ≤ 2 by omega), ck_mono (isNm_ck ex) (show 1 ≤ 2 by omega)]
  have ok := ck_keyOk kp (by omega)
  have e : inO (.d (.tuple [w, x])) (.ref (t + 3)) h = some (.d (.bool (decide (PyData.tuple [w, x] ∈ sl)))) := by
    simp only [inO, inB, toD, r.fs, ok, if_true, seals_look kp r.ks]
    by_cases q : PyData.tuple [w, x] ∈ sl <;> simp [q, bO]
  simp [f_Trust_sealed, b_Trust_sealed, ew, ex, r.fo, ev_is_name r, lookS, e]
end Q

set_option Elab.async false
set_option maxRecDepth 100000
set_option linter.all false
set_option autoImplicit false
/-! K19d: parts_within, Trust.name. -/
namespace Q
open PySem PySem.Spec PyProof.Rows L2 LamX
open Classical
mutual
def sz : PyData → Nat
  | .tuple xs => szs xs + 1
  | _ => 1
def szs : List PyData → Nat
  | [] => 0
  | x :: xs => sz x + szs xs
end
mutual
/-- all the parts of x have p -/
def pAll (p : PyData → Bool) : PyData → Bool
  | .tuple xs => if nameForm (.tuple xs) = true then p (.tuple xs) else pAlls p xs
  | .none => p .none
  | .bool b => p (.bool b)
  | .int i => p (.int i)
  | .str s => p (.str s)
  | .list xs => p (.list xs)
  | .dict xs => p (.dict xs)
def pAlls (p : PyData → Bool) : List PyData → Bool
  | [] => true
  | x :: xs => pAll p x && pAlls p xs
end
theorem sz_tup (xs : List PyData) : sz (.tuple xs) = szs xs + 1 := by rw [sz]
theorem szs_cons (x : PyData) (xs : List PyData) : szs (x :: xs) = sz x + szs xs := by rw [szs]
theorem szs_nil : szs [] = 0 := by rw [szs]
theorem szs_app : ∀ xs ys : List PyData, szs (xs ++ ys) = szs xs + szs ys
  | [], ys => by simp [szs]
  | x :: xs, ys => by simp only [List.cons_append, szs, szs_app xs ys]; omega
theorem pAlls_app (p : PyData → Bool) : ∀ xs ys : List PyData, pAlls p (xs ++ ys) = (pAlls p xs && pAlls p ys)
  | [], ys => by simp [pAlls]
  | x :: xs, ys => by simp only [List.cons_append, pAlls, pAlls_app p xs ys, Bool.and_assoc]
theorem sz_pos (x : PyData) : 1 ≤ sz x := by
  cases x <;> simp [sz]
theorem szs_len : ∀ xs : List PyData, xs.length ≤ szs xs
  | [] => Nat.le_refl _
  | x :: xs => by
    have := szs_len xs
    have := sz_pos x
    simp only [List.length_cons, szs]
    omega
theorem neNil {h : AH} {l : Nat} {ds : List PyData} (hl : h.f l = some (.lst (ds.map .d))) : neO (.ref l) (.d (.list [])) h = some (.d (.bool (!ds.isEmpty))) := by
  have e : eqB (.ref l) (.d (.list [])) h = some ds.isEmpty := by
    unfold eqB
    simp only [toD, hl, allD_map, Option.map_some]
    cases ds with
    | nil => rfl
    | cons d ds =>
      split
      · simp [PyData.eqv, PyData.eqvAll]
      · simp [eqLen, lenL, hl]
  simp [neO, e, bO]
def isTup (x : PyData) : Bool := match x with
  | .tuple _ => true
  | _ => false
theorem pAll_leaf {p : PyData → Bool} {x : PyData} (e : (isTup x && !nameForm x) = false) : pAll p x = p x := by
  cases x with
  | tuple xs =>
    have : nameForm (.tuple xs) = true := by simpa [isTup] using e
    simp [pAll, this]
  | _ => simp [pAll]
theorem pw_while (x : PyData) (f l : Nat) (fl : f ≠ l) : ∀ (n : Nat) (L F : List PyData) (it : Option W) (h : AH), szs L ≤ n → h.f f = some (.lst (F.map .d)) → h.f l = some (.lst (L.map .d)) → F.length + szs L ≤ 1000000 → ∃ (k : Nat) (ρ' : Option W) (h' : AH) (F' : List PyData), whN (tOf (eOp neO (eVar 2) (eLstD aNil))) (sSeq (sSet 3 (eMt popM (eVar 2) aNil))
    (sIf (tAndS (tOf (eUn (isiO (isiB CLS "tuple")) (eVar 3))) (tNotS (tOf (eCall 1 f_has_name_form (aCons (eVar 3) aNil))))) (sExpr (eMt extendM (eVar 2) (aCons (eVar 3) aNil))) (sExpr (eMt appendM (eVar 1) (aCons (eVar 3) aNil))))) k [some (.d x), some (.ref f), some (.ref l), it] h = some (.nx ([some (.d x), some (.ref f), some (.ref l), ρ']) h') ∧ h'.f f = some (.lst (F'.map .d)) ∧ (∀ p : PyData → Bool, F'.all p = (F.all p && pAlls p L)) ∧ Same [f, l] h h'
  | n, L, F, it, h, hn, hf, hl, hz => by
    rcases List.eq_nil_or_concat L with rfl | ⟨L', y, rfl⟩
    · refine ⟨1, it, h, F, ?_, hf, fun p => by simp [pAlls], Same.refl _ _⟩
      simp [whN, neNil hl]
    · rw [List.concat_eq_append] at *
      rw [szs_app] at hn hz
      have hs : szs [y] = sz y := by simp [szs]
      rw [hs] at hn hz
      have hy := sz_pos y
      cases n with
      | zero => omega
      | succ n =>
        have ne : neO (.ref l) (.d (.list [])) h = some (.d (.bool true)) := by rw [neNil hl]; simp
        have hlen := szs_len L'
        cases q : (isTup y && !nameForm y) with
        | true =>
          obtain ⟨q1, q2⟩ : isTup y = true ∧ nameForm y = false := by simpa using q
          unfold isTup at q1
          split at q1
          · rename_i xs
            have hs2 : sz (.tuple xs) = szs xs + 1 := by simp [sz]
            have hlen2 := szs_len xs
            obtain ⟨k, it', h', F', e1, e2, e3, e4⟩ := pw_while x f l fl n (L' ++ xs) F (some (.d (.tuple xs))) ((h.set l (.lst (L'.map .d))).set l (.lst ((L' ++ xs).map .d))) (by rw [szs_app]; omega) (by simp [fl, hf]) (by simp) (by rw [szs_app]; omega)
            refine ⟨k + 1, it', h', F', ?_, e2, fun p => ?_, ?_⟩
            · have : L'.length + xs.length ≤ 1000000 := by omega
              simp only [List.map_append] at e1
              simp [whN, ne, lstAt, hl, popM, q2, extendM, toD, this]
              exact e1
            · rw [e3, pAlls_app, pAlls_app]
              simp [pAlls, pAll, q2]
            · exact (((Same.refl _ h).set (by simp)).set (by simp)).trans e4
          · cases q1
        | false =>
          obtain ⟨k, it', h', F', e1, e2, e3, e4⟩ := pw_while x f l fl n L' (F ++ [y]) (some (.d y)) ((h.set l (.lst (L'.map .d))).set f (.lst ((F ++ [y]).map .d))) (by omega) (by simp) (by simp [Ne.symm fl]) (by simp; omega)
          refine ⟨k + 1, it', h', F', ?_, e2, fun p => ?_, ?_⟩
          · have hF : F.length < 1000000 := by omega
            simp only [List.map_append] at e1
            cases y with
            | tuple xs =>
              have q2 : nameForm (.tuple xs) = true := by simpa [isTup] using q
              simp [whN, ne, lstAt, hl, hf, fl, popM, q2, appendM, hF]
              exact e1
            | _ =>
              simp [whN, ne, lstAt, hl, hf, fl, popM, appendM, hF]
              exact e1
          · rw [e3, pAlls_app]
            simp [pAlls, pAll_leaf q, Bool.and_assoc, Bool.and_comm (pAlls p L')]
          · exact (((Same.refl _ h).set (by simp)).set (by simp)).trans e4
theorem ev_parts {h : AH} {x : PyData} (hz : sz x ≤ 1000000) : ∃ (f : Nat) (h' : AH) (F : List PyData), f_parts_within [.d x] h = .ok (.ref f) h' ∧ h'.f f = some (.lst (F.map .d)) ∧ (∀ p : PyData → Bool, F.all p = pAll p x) ∧ Same [] h h' := by
  obtain ⟨k, it, h', F, e1, e2, e3, e4⟩ := pw_while x h.n (h.n + 1) (by omega) (sz x) [x] [] none ((h.new (.lst [])).new (.lst [.d x])) (by simp [szs]) (by simp) (by simp) (by simp [szs]; exact hz)
  refine ⟨h.n, h', F, ?_, e2, fun p => by rw [e3]; simp [pAlls], ?_, ?_⟩
  · simp [f_parts_within, b_parts_within]
    rw [sWhile_of e1]
    simp
  · have := e4.1
    simp at this
    omega
  · intro j hj _
    rw [e4.2 j (by simp; omega) (by simp; omega)]
    rw [new_f, if_neg (by simp; omega), new_f, if_neg (by omega)]
end Q

set_option Elab.async false
set_option maxRecDepth 100000
set_option linter.all false
set_option autoImplicit false
/-! K19e: Trust.name. -/
namespace Q
open PySem PySem.Spec PyProof.Rows L2 LamX
open Classical
theorem ev_comp {own : List Nat} {mi : SemI} {g : SemG} {mt : SemT} {me : SemE} {ρ : Env'} {h : AH} : eComp own mi g mt me ρ h = (mi ρ h).bind fun p h1 => (compL p.2 g mt me (wipR ρ own) p.1 h1).bind fun ys h2 => .ofOpt ((allD ys).map fun ds => .d (.list ds)) h2 := rfl
theorem ev_for {mi : SemI} {g : SemG} {b : SemS} {ρ : Env'} {h : AH} : sFor mi g b ρ h = (mi ρ h).st fun p h1 => forL p.2 g b p.1 ρ h1 := rfl
theorem allBl_map {α : Type} (p : α → Bool) : ∀ F : List α, allBl (F.map fun y => PyData.bool (p y)) = some (F.map p)
  | [] => rfl
  | x :: xs => by simp [allBl, allBl_map p xs]
theorem allO_map {α : Type} (p : α → Bool) (F : List α) (h : AH) : allO [.d (.list (F.map fun y => PyData.bool (p y)))] h = some (.d (.bool (F.all p))) := by
  simp only [allO, toD, allBl_map, Option.map_some]
  rw [List.all_map]
  rfl
def goodIt (n : Nat) (y : PyData) : Bool := isNm n y || isPlain y
theorem ev_name_comp {h : AH} {t : Nat} {cs sl : List PyData} (r : TrAt h t cs sl) {x : PyData} (hz : sz x ≤ 1000000) : ∃ h', (eApp allO (aCons (eComp [2] (iSeq (eCall 1 f_parts_within (aCons (eVar 1) aNil))) (gN 2) tYesS (eOr (eMeth "Trust" "is_name" 2 f_Trust_is_name (eVar 0) (aCons (eVar 2) aNil)) (eCall 1 f_is_plain (aCons (eVar 2) aNil)))) aNil)) [some (.ref t), some (.d x), none] h = .ok (.d (.bool (pAll (goodIt cs.length) x))) h' ∧ Same [] h h' := by
  obtain ⟨f, h', F, e1, e2, e3, e4⟩ := ev_parts (h := h) hz
  have r' := r.same e4 (by simp)
  refine ⟨h', ?_, e4⟩
  have q := compL_map (chk := fun h => h.f f = some (.lst (F.map .d))) (g := gN 2) (me := eOr (eMeth "Trust" "is_name" 2 f_Trust_is_name (eVar 0) (aCons (eVar 2) aNil)) (eCall 1 f_is_plain (aCons (eVar 2) aNil))) (ρ := [some (.ref t), some (.d x), none]) (h := h') (fun w => match w with
    | .d y => .d (.bool (goodIt cs.length y))
    | _ => w) e2 (F.map .d) (by
      intro w hw
      obtain ⟨y, _, rfl⟩ := List.mem_map.mp hw
      refine ⟨_, rfl, ?_⟩
      cases e : isNm cs.length y <;> simp [r'.fo, ev_is_name r', e, goodIt])
  have m : ((F.map W.d).map fun w => match w with
    | .d y => W.d (.bool (goodIt cs.length y))
    | _ => w) = (F.map fun y => PyData.bool (goodIt cs.length y)).map W.d := by
    rw [List.map_map, List.map_map]
    rfl
  rw [m] at q
  simp [ev_comp, e1, e2, wipR, q, allO_map, e3, -List.map_map]
theorem ev_name_bad {h : AH} {t : Nat} {cs sl : List PyData} (r : TrAt h t cs sl) {x : PyData} (hz : sz x ≤ 1000000) (e : pAll (goodIt cs.length) x = false) : ∃ h', f_Trust_name [.ref t, .d x] h = .err "BadContent" [] h' ∧ Same [] h h' := by
  obtain ⟨h', e1, e2⟩ := ev_name_comp r hz
  rw [e] at e1
  refine ⟨h', ?_, e2⟩
  simp only [f_Trust_name, b_Trust_name, mkFn_def, List.map, List.length, List.replicate, List.append, ev_sSeq, ev_sIf, ev_tNot, ev_tOf, List.cons_append, List.nil_append, Nat.reduceSub, Nat.reduceAdd]
  rw [e1]
  rfl
theorem ev_name {h : AH} {t : Nat} {cs sl : List PyData} (r : TrAt h t cs sl) {x : PyData} (hz : sz x ≤ 1000000) (e : pAll (goodIt cs.length) x = true) (kx : ck 6 x = true) (hl : cs.length < 1000000) : ∃ h' cs' j, f_Trust_name [.ref t, .d x] h = .ok (.d (nm j)) h' ∧ TrAt h' t cs' sl ∧ Same [t + 1, t + 2] h h' ∧ cs' = (if x ∈ cs then cs else cs ++ [x]) ∧ idxD x cs' 0 = some j := by
  obtain ⟨h', e1, e2⟩ := ev_name_comp r hz
  rw [e] at e1
  have r' := r.same e2 (by simp)
  have ok := ck_keyOk kx (by omega)
  have look := lookD_nms kx 0 cs r.kc
  have non := idxD_none kx 0 cs r.kc
  have nin : notInO (.d x) (.ref (t + 2)) h' = some (.d (.bool (!(idxD x cs 0).isSome))) := by
    simp only [notInO, inB, toD, r'.fm, ok, if_true, look, Option.map_some, bO, Option.isSome_map]
  by_cases m : x ∈ cs
  · cases q : idxD x cs 0 with
    | none => exact absurd m (non.mp q)
    | some j =>
      refine ⟨h', cs, j, ?_, r', e2.mono (by simp), by rw [if_pos m], q⟩
      have ix : ixO (.ref (t + 2)) (.d x) h' = some (.d (nm j)) := by
        simp only [ixO, r'.fm, ok, if_true, look, q, Option.map_some]
      simp only [f_Trust_name, b_Trust_name, mkFn_def, List.map, List.length, List.replicate, List.append, ev_sSeq, ev_sIf, ev_tNot, ev_tOf, List.cons_append, List.nil_append, Nat.reduceSub, Nat.reduceAdd]
      rw [e1]
      simp [r'.fo, lookS, nin, q, ix]
  · have q := non.mpr m
    have put : putD x (.d (nm cs.length)) (nmsFrom 0 cs) = nmsFrom 0 (cs ++ [x]) := by
      rw [putD_fresh (by rw [look, q]; rfl), nmsFrom_app]
      simp [nmsFrom]
    have ap : ((h'.set (t + 2) (.dct (nmsFrom 0 (cs ++ [x])))).set (t + 1) (.lst ((cs ++ [x]).map .d))).f (t + 2) = some (.dct (nmsFrom 0 (cs ++ [x]))) := by simp
    have kc' : ∀ y ∈ cs ++ [x], ck 6 y = true := by
      intro y hy
      rcases List.mem_append.mp hy with z | z
      · exact r.kc y z
      · rw [List.mem_singleton.mp z]
        exact kx
    have q' := idxD_app_new kx 0 cs r.kc m
    rw [Nat.zero_add] at q'
    have ix : ixO (.ref (t + 2)) (.d x) ((h'.set (t + 2) (.dct (nmsFrom 0 (cs ++ [x])))).set (t + 1) (.lst ((cs ++ [x]).map .d))) = some (.d (nm cs.length)) := by
      simp only [ixO, ap, ok, if_true, lookD_nms kx 0 (cs ++ [x]) kc', q', Option.map_some]
    refine ⟨(h'.set (t + 2) (.dct (nmsFrom 0 (cs ++ [x])))).set (t + 1) (.lst ((cs ++ [x]).map .d)), cs ++ [x], cs.length, ?_, ⟨?_, ?_, ?_, ?_, r'.lt, kc', r.ks, ?_⟩, ?_, by rw [if_neg m], q'⟩
    · simp only [f_Trust_name, b_Trust_name, mkFn_def, List.map, List.length, List.replicate, List.append, ev_sSeq, ev_sIf, ev_tNot, ev_tOf, List.cons_append, List.nil_append, Nat.reduceSub, Nat.reduceAdd]
      rw [e1]
      have lc : lenO [.ref (t + 1)] h' = some (.d (.int cs.length)) := by simp [lenO, lenL, r'.fc]
      have nl : (nmsFrom 0 cs).length < 1000000 := by rw [nmsFrom_len]; exact hl
      simp only [List.map_append, List.map_cons, List.map_nil] at ix
      rw [nm] at put
      simp [r'.fo, lookS, nin, q, lc, putIn, r'.fm, ok, nl, put, lstAt, r'.fc, appendM, hl, ix]
    · simp [r'.fo]
    · simp
    · simp
    · simp [r'.fs]
    · rw [List.nodup_append]
      refine ⟨r.nd, by simp, fun a ha b hb => ?_⟩
      rw [List.mem_singleton.mp hb]
      intro z
      rw [z] at ha
      exact m ha
    · exact ((e2.mono (by simp)).set (by simp)).set (by simp)
end Q

set_option Elab.async false
set_option maxRecDepth 100000
set_option linter.all false
set_option autoImplicit false
/-! K19f: the tape. -/
namespace Q
open PySem PySem.Spec PyProof.Rows L2 LamX
open Classical
theorem keyS_iff (a b : Str) : keyD (.str a) = keyD (.str b) ↔ a = b := by simp [keyD]
theorem ofS_iff (a b : String) : Str.ofString a = Str.ofString b ↔ a = b := ⟨ofString_inj, fun h => by rw [h]⟩
theorem keyOk_str (s : Str) : keyOk (.str s) := ⟨.text s, rfl, by simp [NestedKey.depth]⟩
/-- a tape -/
def tp (q : Nat) (r : Int) (cells : List Int) (k : Int) : List (PyData × W) := [(.str (Str.ofString "large"), .ref q), (.str (Str.ofString "rest"), .d (.int r)), (.str (Str.ofString "cells"), .d (.list (cells.map .int))), (.str (Str.ofString "turn"), .d (.int k))]
@[simp] theorem tp_large (q : Nat) (r : Int) (cells : List Int) (k : Int) : lookD (.str (Str.ofString "large")) (tp q r cells k) = some (.ref q) := by simp [tp, lookD]
@[simp] theorem tp_rest (q : Nat) (r : Int) (cells : List Int) (k : Int) : lookD (.str (Str.ofString "rest")) (tp q r cells k) = some (.d (.int r)) := by simp [tp, lookD, keyS_iff, ofS_iff]
@[simp] theorem tp_cells (q : Nat) (r : Int) (cells : List Int) (k : Int) : lookD (.str (Str.ofString "cells")) (tp q r cells k) = some (.d (.list (cells.map .int))) := by simp [tp, lookD, keyS_iff, ofS_iff]
@[simp] theorem tp_turn (q : Nat) (r : Int) (cells : List Int) (k : Int) : lookD (.str (Str.ofString "turn")) (tp q r cells k) = some (.d (.int k)) := by simp [tp, lookD, keyS_iff, ofS_iff]
@[simp] theorem tp_put_rest (q : Nat) (r : Int) (cells : List Int) (k r' : Int) : putD (.str (Str.ofString "rest")) (.d (.int r')) (tp q r cells k) = tp q r' cells k := by simp [tp, putD, keyS_iff, ofS_iff]
@[simp] theorem tp_put_turn (q : Nat) (r : Int) (cells : List Int) (k k' : Int) : putD (.str (Str.ofString "turn")) (.d (.int k')) (tp q r cells k) = tp q r cells k' := by simp [tp, putD, keyS_iff, ofS_iff]
@[simp] theorem tp_len (q : Nat) (r : Int) (cells : List Int) (k : Int) : (tp q r cells k).length = 4 := rfl
structure TpAt (h : AH) (p q : Nat) (n : Nat) : Prop where
  ex : ∃ (r : Int) (cells L : List Int) (k : Int), h.f p = some (.dct (tp q r cells k)) ∧ h.f q = some (.lst ((L.map PyData.int).map .d)) ∧ 0 ≤ r ∧ (∀ z ∈ L, 0 ≤ z) ∧ (∀ z ∈ cells, 0 ≤ z) ∧ 0 ≤ k ∧ k ≤ (n : Int)
  ne : p ≠ q
  lt : p < h.n ∧ q < h.n
theorem TpAt.mono {h : AH} {p q n m : Nat} (r : TpAt h p q n) (l : n ≤ m) : TpAt h p q m := by
  obtain ⟨⟨r, cells, L, k, h1, h2, h3, h4, h5, h6, h7⟩, a, b⟩ := r
  exact ⟨⟨r, cells, L, k, h1, h2, h3, h4, h5, h6, by omega⟩, a, b⟩
theorem TpAt.same {h h' : AH} {p q n : Nat} {S : List Nat} (r : TpAt h p q n) (e : Same S h h') (d : p ∉ S ∧ q ∉ S) : TpAt h' p q n := by
  obtain ⟨⟨r, cells, L, k, h1, h2, h3⟩, a, b⟩ := r
  exact ⟨⟨r, cells, L, k, by rw [e.2 p b.1 d.1]; exact h1, by rw [e.2 q b.2 d.2]; exact h2, h3⟩, a, by have := e.1; omega⟩
theorem log_lt {x : Int} {m : Nat} (h : x.natAbs < 2 ^ m) (hm : 0 < m) : x.natAbs.log2 < m := by
  by_cases e : x.natAbs = 0
  · rw [e]
    simpa using hm
  · exact (Nat.log2_lt e).mpr h
theorem mul_ev {i j : Int} (a b : Nat) (hi : i.natAbs < 2 ^ a) (hj : j.natAbs < 2 ^ b) (ha : 0 < a) (hb : 0 < b) (l : a + b ≤ 1000) (h : AH) : mulO (.d (.int i)) (.d (.int j)) h = some (.d (.int (i * j))) := by
  have h1 := log_lt hi ha
  have h2 := log_lt hj hb
  have : i.natAbs.log2 + j.natAbs.log2 < 1000000 := by omega
  show (if decide (i.natAbs.log2 + j.natAbs.log2 < 1000000) = true then some (W.d (.int (i * j))) else none) = _
  rw [if_pos (decide_eq_true this)]
theorem mod_ev {i j : Int} (h0 : 0 < j) (h : AH) : modO (.d (.int i)) (.d (.int j)) h = some (.d (.int (i % j))) := by
  simp only [modO, binI, decide_eq_true h0, if_true]
theorem fdiv_ev {i j : Int} (h0 : 0 < j) (hl : j.natAbs < 2 ^ 64) (h : AH) : fdivO (.d (.int i)) (.d (.int j)) h = some (.d (.int (i / j))) := by
  have := log_lt hl (by omega)
  have : 0 < j ∧ j.natAbs.log2 < 9000 := ⟨h0, by omega⟩
  simp only [fdivO, binI, decide_eq_true this, if_true]
theorem pow_ev {i j : Int} (h0 : 0 ≤ j) (hj : j ≤ 100) (hl : i.natAbs < 2 ^ 64) (h : AH) : powO (.d (.int i)) (.d (.int j)) h = some (.d (.int (i ^ j.toNat))) := by
  have : 0 ≤ j ∧ j ≤ 1000000 ∧ i.natAbs < 2 ^ 64 := ⟨h0, by omega, hl⟩
  simp only [powO, binI, decide_eq_true this, if_true]
/-- the inner loop of the blend -/
theorem blend_in (t fo gr : Int) (p : Nat) (h0 : 0 < gr) (h1 : gr < 2147483648) : ∀ (cells : List Int) (b : Int) (g : Option W) (h : AH), (∀ z ∈ cells, 0 ≤ z) → 0 ≤ b → b < gr → ∃ b' g', 0 ≤ b' ∧ b' < gr ∧ forL (fun _ => True) (gN 5) (sSet 4 (eOp modO (eOp addO (eOp mulO (eVar 4) (eC (.int 48271))) (eApp intO (aCons (eVar 5) aNil))) (eVar 3))) ((cells.map PyData.int).map .d) [some (.ref p), some (.d (.int t)), some (.d (.int fo)), some (.d (.int gr)), some (.d (.int b)), g] h = .nx [some (.ref p), some (.d (.int t)), some (.d (.int fo)), some (.d (.int gr)), some (.d (.int b')), g'] h
  | [], b, g, h, _, hb, hb' => ⟨b, g, hb, hb', by simp [forL]⟩
  | z :: cells, b, g, h, hc, hb, hb' => by
    have m := mul_ev (i := b) (j := 48271) 31 16 (by omega) (by decide) (by omega) (by omega) (by omega) h
    have d := mod_ev (i := b * 48271 + z) h0 h
    obtain ⟨b2, g2, q1, q2, q3⟩ := blend_in t fo gr p h0 h1 cells ((b * 48271 + z) % gr) (some (.d (.int z))) h (fun y hy => hc y (List.mem_cons_of_mem _ hy)) (Int.emod_nonneg _ (by omega)) (Int.emod_lt_of_pos _ h0)
    refine ⟨b2, g2, q1, q2, ?_⟩
    simp [forL, m, d]
    simpa using q3
@[simp] theorem for_list (chk : AH → Prop) (g : SemG) (b : SemS) (x : W) (xs : List W) (ρ : Env') (h : AH) : forL chk g b (x :: xs) ρ h = if chk h then (match g x ρ with
    | some ρ1 => match b ρ1 h with
      | .nx ρ' h' => forL chk g b xs ρ' h'
      | .ct ρ' h' => forL chk g b xs ρ' h'
      | .bk ρ' h' => .nx ρ' h'
      | .rt y h' => .rt y h'
      | .err c fs h' => .err c fs h'
      | .bad => .bad
    | none => .bad) else .bad := rfl
@[simp] theorem for_nil (chk : AH → Prop) (g : SemG) (b : SemS) (ρ : Env') (h : AH) : forL chk g b [] ρ h = if chk h then .nx ρ h else .bad := rfl
theorem ix_tp {h : AH} {p q : Nat} {r : Int} {cells : List Int} {k : Int} (hp : h.f p = some (.dct (tp q r cells k))) (s : Str) : ixO (.ref p) (.d (.str s)) h = lookD (.str s) (tp q r cells k) := by
  simp only [ixO, hp, keyOk_str, if_true]
/-- one lap of the blend -/
theorem blend_lap {h : AH} {p q : Nat} {r : Int} {cells : List Int} {k t : Int} (hp : h.f p = some (.dct (tp q r cells k))) (hc : ∀ z ∈ cells, 0 ≤ z) (t0 : 0 ≤ t) (t1 : t ≤ 2000000000) {gr : Int} (g0 : 0 < gr) (g1 : gr < 2147483648) {fo : Int} {a : Nat} (ha : 0 < a ∧ a ≤ 200) (f0 : 0 ≤ fo) (f1 : fo.natAbs < 2 ^ a) (bl gg : Option W) : ∃ fo' bl' gg', 0 ≤ fo' ∧ fo'.natAbs < 2 ^ (a + 32) ∧ (sSeq (sSet 4 (eOp modO (eOp addO (eOp mulO (eVar 1) (eC (.int 69621))) (eOp fdivO (eVar 3) (eC (.int 7)))) (eVar 3)))
    (sSeq (sFor (iSeq (eOp ixO (eVar 0) (eC (.str "cells")))) (gN 5) (sSet 4 (eOp modO (eOp addO (eOp mulO (eVar 4) (eC (.int 48271))) (eApp intO (aCons (eVar 5) aNil))) (eVar 3))))
    (sSet 2 (eOp addO (eOp mulO (eVar 2) (eC (.int 2147483647))) (eOp modO (eOp powO (eVar 4) (eC (.int 5))) (eVar 3)))))) [some (.ref p), some (.d (.int t)), some (.d (.int fo)), some (.d (.int gr)), bl, gg] h = .nx [some (.ref p), some (.d (.int t)), some (.d (.int fo')), some (.d (.int gr)), bl', gg'] h := by
  have m1 := mul_ev (i := t) (j := 69621) 31 17 (by omega) (by decide) (by omega) (by omega) (by omega) h
  have d1 := fdiv_ev (i := gr) (j := 7) (by omega) (by decide) h
  have d2 := mod_ev (i := t * 69621 + gr / 7) g0 h
  obtain ⟨b', g', q1, q2, q3⟩ := blend_in t fo gr p g0 g1 cells ((t * 69621 + gr / 7) % gr) gg h hc (Int.emod_nonneg _ (by omega)) (Int.emod_lt_of_pos _ g0)
  have m2 := mul_ev (i := fo) (j := 2147483647) a 31 f1 (by decide) ha.1 (by omega) (by omega) h
  have p1 := pow_ev (i := b') (j := 5) (by omega) (by omega) (by omega) h
  have d3 := mod_ev (i := b' ^ (Int.toNat 5)) g0 h
  have r0 := Int.emod_nonneg (b' ^ (Int.toNat 5)) (show gr ≠ 0 by omega)
  have r1 := Int.emod_lt_of_pos (b' ^ (Int.toNat 5)) g0
  refine ⟨fo * 2147483647 + b' ^ (Int.toNat 5) % gr, some (.d (.int b')), g', by omega, ?_, ?_⟩
  · rw [Nat.pow_add]
    generalize b' ^ (Int.toNat 5) % gr = z at *
    have hA : 0 < 2 ^ a := Nat.pow_pos (by omega)
    generalize 2 ^ a = A at *
    omega
  · have ix := ix_tp hp (Str.ofString "cells")
    rw [tp_cells] at ix
    simp only [ev_sSeq, ev_sSet, ev_op, ev_var, ev_c, List.getElem?_cons_zero, List.getElem?_cons_succ, out_ok, st_ok, m1, d1, ofOpt_some, add_ev, d2, ev_for, ev_seq, ix, List.set, q3, m2, p1, d3]
theorem ev_blend {h : AH} {p q n : Nat} (r : TpAt h p q n) (hn : n ≤ 1000000000) : ∃ v h', f__law_blend [.ref p] h = .ok (.d (.int v)) h' ∧ 0 ≤ v ∧ TpAt h' p q (n + 1) ∧ Same [p] h h' := by
  obtain ⟨⟨r, cells, L, k, h1, h2, h3, h4, h5, h6, h7⟩, a, b⟩ := r
  have hp : (h.set p (.dct (tp q r cells (k + 1)))).f p = some (.dct (tp q r cells (k + 1))) := by simp
  have lap := fun {gr : Int} (g0 : 0 < gr) (g1 : gr < 2147483648) {fo : Int} {a : Nat} (ha : 0 < a ∧ a ≤ 200) (f0 : 0 ≤ fo) (f1 : fo.natAbs < 2 ^ a) (bl gg : Option W) => blend_lap hp h5 (t := k + 1) (by omega) (by omega) g0 g1 ha f0 f1 bl gg
  obtain ⟨f1, b1, g1, x0, x1, e1⟩ := lap (gr := 2147483629) (by omega) (by omega) (fo := 0) (a := 1) (by omega) (by omega) (by decide) none none
  obtain ⟨f2, b2, g2, y0, y1, e2⟩ := lap (gr := 2147483587) (by omega) (by omega) (by omega) x0 x1 b1 g1
  obtain ⟨f3, b3, g3, z0, z1, e3⟩ := lap (gr := 2147483579) (by omega) (by omega) (by omega) y0 y1 b2 g2
  refine ⟨f3, h.set p (.dct (tp q r cells (k + 1))), ?_, z0, ⟨⟨r, cells, L, k + 1, by simp, by simp [Ne.symm a, h2], h3, h4, h5, by omega, by omega⟩, a, b⟩, (Same.refl _ h).set (by simp)⟩
  have ix := ix_tp h1 (Str.ofString "turn")
  rw [tp_turn] at ix
  have ix2 := ix_tp hp (Str.ofString "turn")
  rw [tp_turn] at ix2
  have st : ∀ (bo : SemS), sFor (iSeq (eLstD (aCons (eC (.int 2147483629)) (aCons (eC (.int 2147483587)) (aCons (eC (.int 2147483579)) aNil))))) (gN 3) bo [some (.ref p), some (.d (.int (k + 1))), some (.d (.int 0)), none, none, none] (h.set p (.dct (tp q r cells (k + 1)))) = forL (fun _ => True) (gN 3) bo [.d (.int 2147483629), .d (.int 2147483587), .d (.int 2147483579)] [some (.ref p), some (.d (.int (k + 1))), some (.d (.int 0)), none, none, none] (h.set p (.dct (tp q r cells (k + 1)))) := fun bo => by simp [ev_for, -for_list]
  unfold f__law_blend b__law_blend
  simp [ix, ix2, putIn, h1, keyOk_str]
  rw [st]
  simp [-ev_sSeq, e1, e2, e3]
end Q

set_option Elab.async false
set_option maxRecDepth 100000
set_option linter.all false
set_option autoImplicit false
/-! K19g: draws and picks; the tape begun. -/
namespace Q
open PySem PySem.Spec PyProof.Rows L2 LamX
open Classical
/-- how a def's body ends -/
def fnEnd (o : OutS) : Out W := match o with
  | .nx _ h' => .ok (.d .none) h'
  | .rt x h' => .ok x h'
  | .err c fs h' => .err c fs h'
  | _ => .bad
theorem mkFn_end (n : Nat) (b : SemS) (ws : List W) (h : AH) : mkFn n b ws h = fnEnd (b (ws.map some ++ List.replicate (n - ws.length) none) h) := rfl
@[simp] theorem fnEnd_rt (x : W) (h : AH) : fnEnd (.rt x h) = .ok x h := rfl
@[simp] theorem fnEnd_nx (x : Env') (h : AH) : fnEnd (.nx x h) = .ok (.d .none) h := rfl
@[simp] theorem fnEnd_err (c : String) (fs : List (String × PyData)) (h : AH) : fnEnd (.err c fs h) = .err c fs h := rfl
theorem ev_draw {h : AH} {p q n : Nat} (r : TpAt h p q n) (hn : n ≤ 1000000000) {size : Int} (s0 : 0 < size) (s1 : size.natAbs < 2 ^ 64) : ∃ v h', f__law_draw [.ref p, .d (.int size)] h = .ok (.d (.int v)) h' ∧ 0 ≤ v ∧ v < size ∧ TpAt h' p q (n + 1) ∧ Same [p, q] h h' := by
  obtain ⟨⟨r, cells, L, k, h1, h2, h3, h4, h5, h6, h7⟩, a, b⟩ := id r
  have ix := ix_tp h1 (Str.ofString "rest")
  rw [tp_rest] at ix
  have iq := ix_tp h1 (Str.ofString "large")
  rw [tp_large] at iq
  -- the second half, from any rest
  have fin : ∀ (h' : AH) (r' : Int) (cells L' : List Int) (k' : Int), (∀ z ∈ cells, 0 ≤ z) → h'.f p = some (.dct (tp q r' cells k')) → h'.f q = some (.lst ((L'.map PyData.int).map .d)) → 0 ≤ r' → (∀ z ∈ L', 0 ≤ z) → 0 ≤ k' → k' ≤ ((n + 1 : Nat) : Int) → Same [p, q] h h' → ∃ v h2, fnEnd ((sSeq (sSet 2 (eOp modO (eApp intO (aCons (eOp ixO (eVar 0) (eC (.str "rest"))) aNil)) (eVar 1)))
    (sSeq (sPut (eVar 0) (eC (.str "rest")) (eOp fdivO (eApp intO (aCons (eOp ixO (eVar 0) (eC (.str "rest"))) aNil)) (eVar 1)))
    (sRet (eVar 2)))) [some (.ref p), some (.d (.int size)), none] h') = Out.ok (.d (.int v)) h2 ∧ 0 ≤ v ∧ v < size ∧ TpAt h2 p q (n + 1) ∧ Same [p, q] h h2 := by
    intro h' r' cells L' k' h5 g1 g2 g3 g4 g5 g6 g7
    have ix' := ix_tp g1 (Str.ofString "rest")
    rw [tp_rest] at ix'
    have d1 := mod_ev (i := r') s0 h'
    have d2 := fdiv_ev (i := r') s0 s1 h'
    refine ⟨r' % size, h'.set p (.dct (tp q (r' / size) cells k')), ?_, Int.emod_nonneg _ (by omega), Int.emod_lt_of_pos _ s0, ⟨⟨r' / size, cells, L', k', by simp, by simp [Ne.symm a, g2], Int.ediv_nonneg g3 (by omega), g4, h5, g5, g6⟩, a, ?_⟩, g7.set (by simp)⟩
    · simp [ix', d1, d2, putIn, g1, keyOk_str]
    · have := g7.1
      simp only [set_n]
      omega
  unfold f__law_draw b__law_draw
  by_cases e : r = 0
  · subst e
    cases L with
    | nil =>
      have ne := neNil h2
      simp only [List.isEmpty_nil, List.map_nil, Bool.not_true] at ne
      obtain ⟨v, h', e1, v0, r', sm⟩ := ev_blend ⟨⟨0, cells, [], k, h1, h2, h3, h4, h5, h6, h7⟩, a, b⟩ hn
      obtain ⟨⟨r2, cells2, L2, k2, g1, g2, g3, g4, g5, g6, g7⟩, _, b2⟩ := r'
      obtain ⟨v', h3, w1, w2⟩ := fin (h'.set p (.dct (tp q v cells2 k2))) v cells2 L2 k2 g5 (by simp) (by simp [Ne.symm a, g2]) v0 g4 g6 g7 ((sm.mono (by simp)).set (by simp))
      refine ⟨v', h3, ?_, w2⟩
      rw [← w1]
      simp only [mkFn_end, List.map, List.length, List.replicate, List.cons_append, List.nil_append, Nat.reduceSub, Nat.reduceAdd]
      rw [ev_sSeq]
      simp [ix, iq, ne, e1, putIn, g1, keyOk_str, -ev_sSeq]
    | cons z L =>
      have ne := neNil h2
      simp only [List.map_cons, List.isEmpty_cons, Bool.not_false] at ne
      obtain ⟨v', h3, w1, w2⟩ := fin ((h.set q (.lst ((L.map PyData.int).map .d))).set p (.dct (tp q z cells k))) z cells L k h5 (by simp) (by simp [Ne.symm a]) (h4 z (List.mem_cons_self ..)) (fun y hy => h4 y (List.mem_cons_of_mem _ hy)) h6 (by omega) (((Same.refl _ h).set (by simp)).set (by simp))
      refine ⟨v', h3, ?_, w2⟩
      rw [← w1]
      simp only [mkFn_end, List.map, List.length, List.replicate, List.cons_append, List.nil_append, Nat.reduceSub, Nat.reduceAdd]
      rw [ev_sSeq]
      simp [ix, iq, ne, putIn, h1, a, keyOk_str, lstAt, h2, popAtM, -ev_sSeq, -List.map_map]
  · obtain ⟨v', h3, w1, w2⟩ := fin h r cells L k h5 h1 h2 h3 h4 h6 (by omega) (Same.refl _ h)
    refine ⟨v', h3, ?_, w2⟩
    rw [← w1]
    simp only [mkFn_end, List.map, List.length, List.replicate, List.cons_append, List.nil_append, Nat.reduceSub, Nat.reduceAdd]
    rw [ev_sSeq]
    simp [ix, e, -ev_sSeq]
end Q

set_option Elab.async false
set_option maxRecDepth 100000
set_option linter.all false
set_option autoImplicit false
/-! K19h: picks; the tape begun. -/
namespace Q
open PySem PySem.Spec PyProof.Rows L2 LamX
open Classical
theorem at_some {α : Type} {ds : List α} {v : Int} (h0 : 0 ≤ v) (h1 : v < ds.length) : ∃ x, atI ds v = some x ∧ x ∈ ds := by
  have hb : v.toNat < ds.length := by omega
  refine ⟨ds[v.toNat], ?_, List.getElem_mem hb⟩
  simp only [atI, ixN]
  rw [if_pos h0, if_pos h1]
  simp [hb]
theorem ev_pick {h : AH} {p q n : Nat} (r : TpAt h p q n) (hn : n ≤ 1000000000) {ds : List PyData} (s0 : 0 < ds.length) (s1 : ds.length ≤ 1000000) : ∃ x h', f__law_pick [.ref p, .d (.list ds)] h = .ok (.d x) h' ∧ x ∈ ds ∧ TpAt h' p q (n + 1) ∧ Same [p, q] h h' := by
  obtain ⟨v, h', e1, v0, v1, r', sm⟩ := ev_draw r hn (size := (ds.length : Int)) (by omega) (by omega)
  obtain ⟨x, e2, m⟩ := at_some v0 v1
  exact ⟨x, h', by simp [f__law_pick, b__law_pick, e1, e2], m, r', sm⟩
theorem ev_pickH {h : AH} {p q n l : Nat} (r : TpAt h p q n) (hn : n ≤ 1000000000) {ds : List PyData} (hl : h.f l = some (.lst (ds.map .d))) (ll : l < h.n) (d : l ≠ p ∧ l ≠ q) (s0 : 0 < ds.length) (s1 : ds.length ≤ 1000000) : ∃ x h', f__law_pick [.ref p, .ref l] h = .ok (.d x) h' ∧ x ∈ ds ∧ TpAt h' p q (n + 1) ∧ Same [p, q] h h' := by
  obtain ⟨v, h', e1, v0, v1, r', sm⟩ := ev_draw r hn (size := (ds.length : Int)) (by omega) (by omega)
  obtain ⟨x, e2, m⟩ := at_some v0 v1
  have hl' := sm.2 l ll (by simp [d])
  rw [hl] at hl'
  have ix : ixO (.ref l) (.d (.int v)) h' = some (.d x) := by
    simp only [ixO, hl', atI_map, e2, Option.map_some]
  exact ⟨x, h', by simp [f__law_pick, b__law_pick, lenO, lenL, hl, e1, ix], m, r', sm⟩
theorem ints_seq {h : AH} {x : W} {ns : List Int} (hi : IsInts h x ns) : ∃ chk : AH → Prop, (∀ ρ, iSeq (eVar 0) (some x :: ρ) h = .ok ((ns.map PyData.int).map .d, chk) h) ∧ ∀ h', Same [] h h' → chk h' := by
  rcases hi with rfl | ⟨i, rfl, hi, hf⟩
  · exact ⟨fun _ => True, fun ρ => by simp, fun _ _ => trivial⟩
  · refine ⟨fun h => h.f i = some (.lst ((ns.map PyData.int).map .d)), fun ρ => ?_, fun h' e => ?_⟩
    · have : (ns.map fun n => W.d (.int n)) = (ns.map PyData.int).map W.d := by rw [List.map_map]; rfl
      rw [this] at hf
      simp [hf, -List.map_map]
    · show h'.f i = _
      rw [e.2 i hi (by simp), hf, List.map_map]
      rfl
theorem IsInts.same {h h' : AH} {x : W} {ns : List Int} (hi : IsInts h x ns) (e : Same [] h h') : IsInts h' x ns := by
  rcases hi with rfl | ⟨i, rfl, hi, hf⟩
  · exact .inl rfl
  · exact .inr ⟨i, rfl, Nat.lt_of_lt_of_le hi e.1, by rw [e.2 i hi (by simp)]; exact hf⟩
theorem abs_ge (i : Int) : 0 ≤ (if i < 0 then -i else i) := by split <;> omega
theorem tp_eq (q : Nat) (ns : List Int) : (([Str.ofString "large", Str.ofString "rest", Str.ofString "cells", Str.ofString "turn"].zip [W.ref q, .d (.int 0), .d (.list (ns.map .int)), .d (.int 0)]).map fun p => (PyData.str p.1, p.2)) = tp q 0 ns 0 := rfl
theorem compO_of {own : List Nat} {mi : SemI} {g : SemG} {mt : SemT} {me : SemE} {ρ : Env'} {h h1 h2 : AH} {ws ys : List W} {chk : AH → Prop} (e1 : mi ρ h = .ok (ws, chk) h1) (e2 : compL chk g mt me (wipR ρ own) ws h1 = .ok ys h2) : compO own mi g mt me ρ h = .ok ys h2 := by
  simp only [compO, e1, out_ok, e2]
theorem flat_ints (ns : List Int) : ((ns.map PyData.int).map W.d).all W.flat = true := by
  simp [List.all_eq_true]
theorem ev_begun {h : AH} {x : W} {ns : List Int} (hi : IsInts h x ns) (hf : x.flat = true) : ∃ p q h', f__law_begun [x] h = .ok (.ref p) h' ∧ TpAt h' p q 0 ∧ Same [] h h' ∧ h.n ≤ p ∧ h.n ≤ q := by
  obtain ⟨chk, e1, c1⟩ := ints_seq hi
  have pw : powO (.d (.int 10)) (.d (.int 18)) h = some (.d (.int 1000000000000000000)) := pow_ev (by omega) (by omega) (by decide) h
  have f1 := compL_filter (g := gN 2) (mt := tOf (eOp geO (eApp absO (aCons (eVar 2) aNil)) (eOp powO (eC (.int 10)) (eC (.int 18))))) (me := eOp subO (eApp absO (aCons (eVar 2) aNil)) (eOp powO (eC (.int 10)) (eC (.int 18)))) (ρ := [some x, none, none]) (fun w => match w with
    | .d (.int i) => decide ((1000000000000000000 : Int) ≤ (if i < 0 then -i else i))
    | _ => false) (fun w => match w with
    | .d (.int i) => .d (.int ((if i < 0 then -i else i) - 1000000000000000000))
    | _ => w) (c1 h (Same.refl _ h)) ((ns.map PyData.int).map .d) (by
      intro w hw
      rw [List.map_map] at hw
      obtain ⟨i, _, rfl⟩ := List.mem_map.mp hw
      exact ⟨_, rfl, by simp [pw], fun _ => by simp [pw]⟩)
  let L : List Int := (ns.filter fun i => decide ((1000000000000000000 : Int) ≤ (if i < 0 then -i else i))).map fun i => (if i < 0 then -i else i) - 1000000000000000000
  have f2 : ((((ns.map PyData.int).map W.d).filter fun w => match w with
    | .d (.int i) => decide ((1000000000000000000 : Int) ≤ (if i < 0 then -i else i))
    | _ => false).map fun w => match w with
    | .d (.int i) => .d (.int ((if i < 0 then -i else i) - 1000000000000000000))
    | _ => w) = (L.map PyData.int).map W.d := by
    show _ = ((List.map _ (List.filter _ ns)).map PyData.int).map W.d
    rw [List.map_map, List.filter_map, List.map_map, List.map_map, List.map_map]
    rfl
  rw [f2] at f1
  have n1 : Same [] h (h.new (.lst ((L.map PyData.int).map .d))) := (Same.refl _ h).new
  obtain ⟨chk2, e2, c2⟩ := ints_seq (hi.same n1)
  let A : List Int := ns.map fun i => if i < 0 then -i else i
  have f3 := compL_map (g := gN 2) (me := eApp absO (aCons (eVar 2) aNil)) (ρ := [some x, some (.ref h.n), none]) (h := h.new (.lst ((L.map PyData.int).map .d))) (fun w => match w with
    | .d (.int i) => .d (.int (if i < 0 then -i else i))
    | _ => w) (c2 _ (Same.refl _ _)) ((ns.map PyData.int).map .d) (by
      intro w hw
      rw [List.map_map] at hw
      obtain ⟨i, _, rfl⟩ := List.mem_map.mp hw
      exact ⟨_, rfl, by simp⟩)
  have f4 : (((ns.map PyData.int).map W.d).map fun w => match w with
    | .d (.int i) => .d (.int (if i < 0 then -i else i))
    | _ => w) = (A.map PyData.int).map W.d := by
    show _ = ((List.map _ ns).map PyData.int).map W.d
    rw [List.map_map, List.map_map, List.map_map, List.map_map]
    rfl
  rw [f4] at f3
  refine ⟨h.n + 1, h.n, (h.new (.lst ((L.map PyData.int).map .d))).new (.dct (tp h.n 0 A 0)), ?_, ⟨⟨0, A, L, 0, by simp, by simp, by omega, ?_, ?_, by omega, by omega⟩, by omega, by simp; omega⟩, n1.new, by omega, by omega⟩
  · have k1 := compO_of (own := [2]) (g := gN 2) (e1 [none, none]) (show compL chk (gN 2) (tOf (eOp geO (eApp absO (aCons (eVar 2) aNil)) (eOp powO (eC (.int 10)) (eC (.int 18))))) (eOp subO (eApp absO (aCons (eVar 2) aNil)) (eOp powO (eC (.int 10)) (eC (.int 18)))) (wipR [some x, none, none] [2]) _ h = _ from f1)
    have k2 : sSetLcH 1 [2] (iSeq (eVar 0)) (gN 2) (tOf (eOp geO (eApp absO (aCons (eVar 2) aNil)) (eOp powO (eC (.int 10)) (eC (.int 18))))) (eOp subO (eApp absO (aCons (eVar 2) aNil)) (eOp powO (eC (.int 10)) (eC (.int 18)))) [some x, none, none] h = .nx [some x, some (.ref h.n), none] (h.new (.lst ((L.map PyData.int).map .d))) := by
      simp only [sSetLcH, k1, st_ok, flat_ints, if_true, List.set]
    have k3 : eComp [2] (iSeq (eVar 0)) (gN 2) tYesS (eApp absO (aCons (eVar 2) aNil)) [some x, some (.ref h.n), none] (h.new (.lst ((L.map PyData.int).map .d))) = .ok (.d (.list (A.map .int))) (h.new (.lst ((L.map PyData.int).map .d))) := by
      rw [ev_comp, e2]
      simp only [out_ok, wipR, List.set, f3, ev_allD_map, Option.map_some, ofOpt_some]
    unfold f__law_begun b__law_begun
    rw [mkFn_end]
    simp only [List.map, List.length, List.replicate, List.cons_append, List.nil_append, Nat.reduceSub, Nat.reduceAdd]
    rw [ev_sSeq, k2]
    simp only [ev_sRet, ev_disp, ev_cons, ev_var, k3, ev_c, ev_nil, out_ok, List.getElem?_cons_zero, List.getElem?_cons_succ]
    rw [if_pos ⟨by simp, by simp⟩]
    rw [st_ok, fnEnd_rt, new_n, tp_eq]
  · intro z hz
    obtain ⟨i, hi, rfl⟩ := List.mem_map.mp hz
    have := (List.mem_filter.mp hi).2
    simp only [decide_eq_true_eq] at this
    omega
  · intro z hz
    obtain ⟨i, hi, rfl⟩ := List.mem_map.mp hz
    exact abs_ge i
end Q

set_option Elab.async false
set_option maxRecDepth 100000
set_option linter.all false
set_option autoImplicit false
/-! RC: more words for the plain laws: targets, comprehensions over data. -/
namespace Q
open PySem PySem.Spec PyProof.Rows L2 LamX
section
variable {ρ : Env'} {h : AH}
@[simp] theorem ev_gT (n : Nat) (gs : SemGs) (ds : List PyData) : gT n gs (.d (.tuple ds)) ρ = if ds.length = n then gs (ds.map .d) ρ else none := rfl
@[simp] theorem ev_gsC (g : SemG) (gs : SemGs) (x : W) (xs : List W) : gsCons g gs (x :: xs) ρ = (g x ρ).bind (gs xs) := rfl
@[simp] theorem ev_gsN : gsNil [] ρ = some ρ := rfl
@[simp] theorem ev_par3 (i j l : Nat) (ms : SemA) : sPar3 i j l ms ρ h = (ms ρ h).st fun xs h1 => match xs with
  | [x, y, z] => .nx (((ρ.set i (some x)).set j (some y)).set l (some z)) h1
  | _ => .bad := rfl
@[simp] theorem ev_parG (n : Nat) (gs : SemGs) (ms : SemA) : sParG n gs ms ρ h = (ms ρ h).st fun xs h1 => if xs.length = n ∧ n ≤ 1000 then (match gs xs ρ with
  | some ρ' => .nx ρ' h1
  | none => .bad) else .bad := rfl
@[simp] theorem ev_oN : oN ρ h = .ok none h := rfl
@[simp] theorem ev_oS (m : SemE) : oS m ρ h = (m ρ h).bind fun x h1 => match x with
  | .d (.int i) => .ok (some i) h1
  | _ => .bad := rfl
@[simp] theorem ev_sl (m : SemE) (lo hi : SemO) : eSl m lo hi ρ h = (m ρ h).bind fun x h1 => (lo ρ h1).bind fun l h2 => (hi ρ h2).bind fun u h3 => .ofOpt (cutO x l u h3) h3 := rfl
@[simp] theorem ev_callK (nk np : Nat) (pm : List Nat) (fn : Fn) (ms : SemA) : eCallK nk np pm fn ms ρ h = (ms ρ h).bind fun xs h1 => if xs.all W.flat = true ∧ xs.length = nk ∧ (permA pm xs).all W.flat = true ∧ (permA pm xs).length = np then fn (permA pm xs) h1 else .bad := rfl
@[simp] theorem ev_list0 (m : SemE) : eList0 m ρ h = (m ρ h).bind fun y h2 => match y with
  | .d (.int j) => if 0 ≤ j ∧ j ≤ 1000000 then .ok (.d (.list (rngD 0 j))) h2 else .bad
  | _ => .bad := rfl
theorem ev_zip (ma mb : SemE) : iZip ma mb ρ h = (ma ρ h).bind fun x h1 => (mb ρ h1).bind fun y h2 => match toD h2 x, toD h2 y with
  | some (.tuple as), some (.tuple bs) => if as.length ≤ 1000000 then (.ok (zipD as bs, (fun _ => True : AH → Prop)) h2 : Out (List W × (AH → Prop))) else .bad
  | some (.list as), some (.list bs) => if as.length ≤ 1000000 then (.ok (zipD as bs, (fun h => toD h x = some (.list as) ∧ toD h y = some (.list bs) : AH → Prop)) h2 : Out (List W × (AH → Prop))) else .bad
  | _, _ => .bad := rfl
theorem ev_range1 (m : SemE) : iRange1 m ρ h = (m ρ h).bind fun x h1 => match x with
  | .d (.int j) => if -(2 ^ 62) ≤ j ∧ j ≤ 1000000 then (.ok (rngW 0 j.toNat, (fun _ => True : AH → Prop)) h1 : Out (List W × (AH → Prop))) else .bad
  | _ => .bad := rfl
theorem rngW_map (lo : Int) (n : Nat) : rngW lo n = ((List.range n).map fun (k : Nat) => PyData.int (lo + (k : Int))).map .d := by
  unfold rngW
  rw [List.map_map]
  rfl
theorem zipD_map (as bs : List PyData) : zipD as bs = ((as.zip bs).map fun p => PyData.tuple [p.1, p.2]).map .d := by
  unfold zipD
  rw [List.map_map]
  rfl
end
theorem comp_def {own : List Nat} {mi : SemI} {g : SemG} {mt : SemT} {me : SemE} {ρ : Env'} {h : AH} : eComp own mi g mt me ρ h = (mi ρ h).bind fun p h1 => (compL p.2 g mt me (wipR ρ own) p.1 h1).bind fun ys h2 => .ofOpt ((allD ys).map fun ds => .d (.list ds)) h2 := rfl
theorem compL_fil {chk : AH → Prop} {g : SemG} {mt : SemT} {me : SemE} {ρ : Env'} {h : AH} {ds : List PyData} (p : PyData → Bool) (f : PyData → PyData) (hc : chk h) (he : ∀ x ∈ ds, ∃ ρ1, g (.d x) ρ = some ρ1 ∧ mt ρ1 h = .ok (p x) h ∧ (p x = true → me ρ1 h = .ok (.d (f x)) h)) : compL chk g mt me ρ (ds.map .d) h = .ok (((ds.filter p).map f).map .d) h := by
  have q := compL_filter (chk := chk) (g := g) (mt := mt) (me := me) (ρ := ρ) (h := h) (fun w => match w with
    | .d x => p x
    | _ => false) (fun w => match w with
    | .d x => .d (f x)
    | w => w) hc (ds.map .d) (by
      intro w hw
      obtain ⟨x, hx, rfl⟩ := List.mem_map.mp hw
      obtain ⟨ρ1, a, b, c⟩ := he x hx
      exact ⟨ρ1, a, b, c⟩)
  rw [q]
  congr 1
  rw [List.filter_map, List.map_map, List.map_map]
  rfl
/-- a comprehension over data: those with p, by f -/
theorem comp_fil {own : List Nat} {mi : SemI} {g : SemG} {mt : SemT} {me : SemE} {ρ : Env'} {h : AH} {ds : List PyData} {chk : AH → Prop} (p : PyData → Bool) (f : PyData → PyData) (e : mi ρ h = .ok (ds.map .d, chk) h) (hc : chk h) (he : ∀ x ∈ ds, ∃ ρ1, g (.d x) (wipR ρ own) = some ρ1 ∧ mt ρ1 h = .ok (p x) h ∧ (p x = true → me ρ1 h = .ok (.d (f x)) h)) : eComp own mi g mt me ρ h = .ok (.d (.list ((ds.filter p).map f))) h := by
  rw [comp_def, e]
  simp only [out_ok]
  rw [compL_fil p f hc he]
  simp only [out_ok, ev_allD_map, Option.map_some, ofOpt_some]
theorem comp_map {own : List Nat} {mi : SemI} {g : SemG} {me : SemE} {ρ : Env'} {h : AH} {ds : List PyData} {chk : AH → Prop} (f : PyData → PyData) (e : mi ρ h = .ok (ds.map .d, chk) h) (hc : chk h) (he : ∀ x ∈ ds, ∃ ρ1, g (.d x) (wipR ρ own) = some ρ1 ∧ me ρ1 h = .ok (.d (f x)) h) : eComp own mi g tYesS me ρ h = .ok (.d (.list (ds.map f))) h := by
  have := comp_fil (mt := tYesS) (fun _ => true) f e hc (fun x hx => by
    obtain ⟨ρ1, a, b⟩ := he x hx
    exact ⟨ρ1, a, rfl, fun _ => b⟩)
  rw [List.filter_eq_self.mpr (by simp)] at this
  exact this
theorem allBl_mapT {α : Type} (p : α → Bool) : ∀ F : List α, allBl (F.map fun y => PyData.bool (p y)) = some (F.map p)
  | [] => rfl
  | x :: xs => by simp [allBl, allBl_mapT p xs]
/-- all([.. for x in ds]) -/
theorem all_comp {own : List Nat} {mi : SemI} {g : SemG} {me : SemE} {ρ : Env'} {h : AH} {ds : List PyData} {chk : AH → Prop} (p : PyData → Bool) (e : mi ρ h = .ok (ds.map .d, chk) h) (hc : chk h) (he : ∀ x ∈ ds, ∃ ρ1, g (.d x) (wipR ρ own) = some ρ1 ∧ me ρ1 h = .ok (.d (.bool (p x))) h) : eApp allO (aCons (eComp own mi g tYesS me) aNil) ρ h = .ok (.d (.bool (ds.all p))) h := by
  rw [ev_app, ev_cons, comp_map (fun x => .bool (p x)) e hc he]
  simp only [out_ok, ev_nil, allO, toD_d, allBl_mapT, Option.map_some, ofOpt_some, List.all_map]
  rfl
theorem any_comp {own : List Nat} {mi : SemI} {g : SemG} {me : SemE} {ρ : Env'} {h : AH} {ds : List PyData} {chk : AH → Prop} (p : PyData → Bool) (e : mi ρ h = .ok (ds.map .d, chk) h) (hc : chk h) (he : ∀ x ∈ ds, ∃ ρ1, g (.d x) (wipR ρ own) = some ρ1 ∧ me ρ1 h = .ok (.d (.bool (p x))) h) : eApp anyO (aCons (eComp own mi g tYesS me) aNil) ρ h = .ok (.d (.bool (ds.any p))) h := by
  rw [ev_app, ev_cons, comp_map (fun x => .bool (p x)) e hc he]
  simp only [out_ok, ev_nil, anyO, toD_d, allBl_mapT, Option.map_some, ofOpt_some, List.any_map]
  rfl
/-- two clauses over data, nothing changed -/
theorem compL2_ev {chk : AH → Prop} {g g1 : SemG} {mt : SemT} {mi1 : SemI} {me : SemE} {own1 : List Nat} {ρ : Env'} {h : AH} (F : PyData → List PyData) (hc : chk h) : ∀ {ds : List PyData}, (∀ x ∈ ds, ∃ ρ1, g (.d x) ρ = some ρ1 ∧ mt ρ1 h = .ok true h ∧ ∃ (ds1 : List PyData) (chk1 : AH → Prop) (f : PyData → PyData), mi1 ρ1 h = .ok (ds1.map .d, chk1) h ∧ chk1 h ∧ F x = ds1.map f ∧ ∀ y ∈ ds1, ∃ ρ2, g1 (.d y) (wipR ρ1 own1) = some ρ2 ∧ me ρ2 h = .ok (.d (f y)) h) → compL2 chk g mt own1 mi1 g1 tYesS me ρ (ds.map .d) h = .ok ((ds.flatMap F).map .d) h
  | [], _ => by simp [compL2, hc]
  | x :: ds, k => by
    obtain ⟨ρ1, e1, e2, ds1, chk1, f, e3, e4, e5, e6⟩ := k x (List.mem_cons_self ..)
    have ih := compL2_ev F hc (ds := ds) fun y hy => k y (List.mem_cons_of_mem _ hy)
    have q := compL_fil (chk := chk1) (g := g1) (mt := tYesS) (me := me) (ρ := wipR ρ1 own1) (h := h) (ds := ds1) (fun _ => true) f e4 (fun y hy => by
      obtain ⟨ρ2, a, b⟩ := e6 y hy
      exact ⟨ρ2, a, rfl, fun _ => b⟩)
    rw [List.filter_eq_self.mpr (by simp)] at q
    rw [List.map_cons]
    unfold compL2
    rw [if_pos hc, e1]
    simp only [e2, e3, q, ih, List.flatMap_cons, List.map_append, e5]
/-- a comprehension that changes what it may, counted -/
theorem compL_cnt {chk : AH → Prop} {g : SemG} {me : SemE} {ρ : Env'} (I : Nat → AH → Prop) (P : W → Prop) (hc : ∀ i h, I i h → chk h) : ∀ (ws : List W) (i : Nat) (h : AH), I i h → (∀ x ∈ ws, ∃ ρ1, g x ρ = some ρ1 ∧ ∀ j h, i ≤ j → j < i + ws.length → I j h → ∃ y h', me ρ1 h = .ok y h' ∧ I (j + 1) h' ∧ P y) → ∃ ys h', compL chk g tYesS me ρ ws h = .ok ys h' ∧ I (i + ws.length) h' ∧ ys.length = ws.length ∧ ∀ y ∈ ys, P y
  | [], i, h, a, _ => ⟨[], h, by simp [compL, hc i h a], a, rfl, fun _ z => by simp at z⟩
  | x :: xs, i, h, a, k => by
    obtain ⟨ρ1, e1, e2⟩ := k x (List.mem_cons_self ..)
    obtain ⟨y, h1, e3, i1, py⟩ := e2 i h (Nat.le_refl _) (by simp) a
    obtain ⟨ys, h2, e4, i2, l, q⟩ := compL_cnt I P hc xs (i + 1) h1 i1 fun y hy => by
      obtain ⟨ρ2, a1, a2⟩ := k y (List.mem_cons_of_mem _ hy)
      exact ⟨ρ2, a1, fun j h hj hl => a2 j h (by omega) (by simp only [List.length_cons]; omega)⟩
    refine ⟨y :: ys, h2, by simp [compL, hc i h a, e1, e3, e4], by rw [List.length_cons, show i + (xs.length + 1) = i + 1 + xs.length by omega]; exact i2, by simp [l], fun z hz => ?_⟩
    rcases List.mem_cons.mp hz with rfl | hz
    · exact py
    · exact q z hz
/-- a comprehension whose test may change something -/
theorem compL_nd {chk : AH → Prop} {g : SemG} {mt : SemT} {me : SemE} {ρ : Env'} (I : Nat → AH → Prop) (C : W → Prop) (f : W → W) (hc : ∀ i h, I i h → chk h) : ∀ (ws : List W) (i : Nat) (h : AH), I i h → (∀ x ∈ ws, ∃ ρ1, g x ρ = some ρ1 ∧ ∀ j h, i ≤ j → j < i + ws.length → I j h → ∃ b h', mt ρ1 h = .ok b h' ∧ I (j + 1) h' ∧ (b = true → C x ∧ me ρ1 h' = .ok (f x) h')) → ∃ (ws' : List W) (h' : AH), compL chk g mt me ρ ws h = .ok (ws'.map f) h' ∧ I (i + ws.length) h' ∧ ws'.Sublist ws ∧ ∀ x ∈ ws', C x
  | [], i, h, a, _ => ⟨[], h, by simp [compL, hc i h a], a, .refl _, fun _ z => by simp at z⟩
  | x :: xs, i, h, a, k => by
    obtain ⟨ρ1, e1, e2⟩ := k x (List.mem_cons_self ..)
    obtain ⟨b, h1, e3, i1, py⟩ := e2 i h (Nat.le_refl _) (by simp) a
    obtain ⟨ys, h2, e4, i2, l, q⟩ := compL_nd I C f hc xs (i + 1) h1 i1 fun y hy => by
      obtain ⟨ρ2, a1, a2⟩ := k y (List.mem_cons_of_mem _ hy)
      exact ⟨ρ2, a1, fun j h hj hl => a2 j h (by omega) (by simp only [List.length_cons]; omega)⟩
    rw [show i + (x :: xs).length = i + 1 + xs.length by simp only [List.length_cons]; omega]
    cases b with
    | true =>
      refine ⟨x :: ys, h2, by simp [compL, hc i h a, e1, e3, (py rfl).2, e4], i2, l.cons₂ _, fun z hz => ?_⟩
      rcases List.mem_cons.mp hz with rfl | hz
      · exact (py rfl).1
      · exact q z hz
    | false => exact ⟨ys, h2, by simp [compL, hc i h a, e1, e3, e4], i2, l.cons _, q⟩
theorem comp_of {own : List Nat} {mi : SemI} {g : SemG} {mt : SemT} {me : SemE} {ρ : Env'} {h h1 h2 : AH} {ws : List W} {ds : List PyData} {chk : AH → Prop} (e : mi ρ h = .ok (ws, chk) h1) (k : compL chk g mt me (wipR ρ own) ws h1 = .ok (ds.map .d) h2) : eComp own mi g mt me ρ h = .ok (.d (.list ds)) h2 := by
  rw [comp_def, e]
  simp only [out_ok]
  rw [k]
  simp only [out_ok, ev_allD_map, Option.map_some, ofOpt_some]
theorem allD_of : ∀ {ws : List W}, (∀ w ∈ ws, ∃ x, w = .d x) → ∃ ds : List PyData, ws = ds.map .d
  | [], _ => ⟨[], rfl⟩
  | w :: ws, h => by
    obtain ⟨x, rfl⟩ := h w (List.mem_cons_self ..)
    obtain ⟨ds, e⟩ := allD_of (ws := ws) fun y hy => h y (List.mem_cons_of_mem _ hy)
    exact ⟨x :: ds, by rw [e]; rfl⟩
end Q

set_option Elab.async false
set_option maxRecDepth 100000
set_option linter.all false
set_option autoImplicit false
/-! K19i: banks, purses, owners. -/
namespace Q
open PySem PySem.Spec PyProof.Rows L2 LamX
open Classical
def bankD (ns : List Int) (m l : Int) : PyData := .tuple [.tuple (ns.map .int), .int m, .int l]
@[simp] theorem bank_ix0 (ns : List Int) (m l : Int) (h : AH) : ixO (.d (bankD ns m l)) (.d (.int 0)) h = some (.d (.tuple (ns.map .int))) := by simp [bankD]
structure BankOk (ns : List Int) (m l : Int) : Prop where
  len : 1 ≤ ns.length ∧ ns.length ≤ 8
  pos : ∀ n ∈ ns, 0 ≤ n ∧ n < 1000000000000000000
  sum : ns.sum < 1000000000000000000
  lies : 0 ≤ l
  mem : 3 * l + 1 ≤ m ∧ m ≤ 13
theorem sumO_T (ns : List Int) (h : AH) : sumO [.d (.tuple (ns.map .int))] h = some (.d (.int ns.sum)) := by
  simp [sumO, allIn_map]
theorem ev_is_bank {ns : List Int} {m l : Int} (b : BankOk ns m l) (h : AH) : f_is_bank [.d (bankD ns m l)] h = .ok (.d (.bool true)) h := by
  obtain ⟨⟨l1, l2⟩, pos, sum, lies, m1, m2⟩ := b
  have a1 : (1 : Int) ≤ (ns.length : Int) := by omega
  have a2 : (ns.length : Int) ≤ 8 := by omega
  have mu : mulO (.d (.int 3)) (.d (.int l)) h = some (.d (.int (3 * l))) := mul_ev 4 10 (by decide) (by omega) (by omega) (by omega) (by omega) h
  have al : (ns.map PyData.int).all (fun x => isNum x 0) = true := by
    rw [List.all_map, List.all_eq_true]
    intro n hn
    have := pos n hn
    simp [isNum, this.1, this.2]
  have n1 : isNum (.int m) 1 = true := by simp [isNum]; omega
  have n2 : isNum (.int l) 0 = true := by simp [isNum]; omega
  unfold f_is_bank b_is_bank bankD
  simp [a1, a2]
  rw [comp_map (ds := ns.map .int) (fun x => .bool (isNum x 0)) ?e ?c ?he]
  case e => rfl
  case c => trivial
  case he => exact fun x _ => ⟨_, rfl, by simp [wipR]⟩
  simp only [out_ok, allO_map, al, ofOpt_some]
  simp [sumO_T, n1, n2, mu, show ¬ (1000000000000000000 : Int) ≤ ns.sum by omega, m1, m2]
theorem ev_no_bank (h : AH) : f_is_bank [.d .none] h = .ok (.d (.bool false)) h := by
  simp [f_is_bank, b_is_bank]
theorem ev_need_bank {ns : List Int} {m l : Int} (b : BankOk ns m l) (h : AH) : f_need_bank [.d (bankD ns m l)] h = .ok (.d .none) h := by
  simp [f_need_bank, b_need_bank, ev_is_bank b]
theorem ev_need_none (h : AH) : f_need_bank [.d .none] h = .err "BadBank" [] h := by
  simp [f_need_bank, b_need_bank, ev_no_bank]
/-- a place below n -/
def isIx (n : Int) (x : PyData) : Bool := match x with
  | .int i => decide (0 ≤ i) && decide (i < n)
  | _ => false
theorem isIx_num {n : Int} {x : PyData} (hn : n ≤ 1000000) : isIx n x = (isNum x 0 && (match x with | .int i => decide (i < n) | _ => false)) := by
  cases x with
  | int i =>
    simp only [isIx, isNum]
    by_cases h0 : 0 ≤ i <;> by_cases h1 : i < n <;> simp [h0, h1]
    omega
  | _ => rfl
theorem ev_need_purse {ns : List Int} {m l : Int} (b : BankOk ns m l) (x : PyData) (h : AH) : f_need_purse [.d (bankD ns m l), .d x] h = if isIx ns.length x = true then .ok (.d .none) h else .err "BadPurse" [] h := by
  have := b.len
  rw [isIx_num (by omega)]
  unfold f_need_purse b_need_purse bankD
  cases x with
  | int i =>
    by_cases h0 : isNum (.int i) 0 = true
    · by_cases h1 : i < (ns.length : Int)
      · simp [h0, h1, show ¬ (ns.length : Int) ≤ i by omega]
      · simp [h0, h1, show (ns.length : Int) ≤ i by omega]
    · simp [h0]
  | _ => simp [isNum]
theorem ev_owner_of {ns : List Int} {m l : Int} (b : BankOk ns m l) (x y : PyData) (h : AH) : f_owner_of [.d (bankD ns m l), .d x, .d y] h = if isIx ns.length x = true then (match x, y with
  | .int i, .int j => if isIx 6 y = true then .ok (.d (.tuple [.str "owner", .int (i + j * ns.length)])) h else .err "BadOwner" [] h
  | _, _ => .err "BadOwner" [] h) else .err "BadPurse" [] h := by
  have := b.len
  unfold f_owner_of b_owner_of
  by_cases hx : isIx ns.length x = true
  · cases x with
    | int i =>
      cases y with
      | int j =>
        rw [isIx_num (x := .int j) (by omega)]
        by_cases h0 : isNum (.int j) 0 = true
        · by_cases h1 : j < 6
          · have mu : mulO (.d (.int j)) (.d (.int ns.length)) h = some (.d (.int (j * ns.length))) := by
              simp only [isNum, Bool.and_eq_true, decide_eq_true_eq] at h0
              exact mul_ev 4 4 (by omega) (by omega) (by omega) (by omega) (by omega) h
            simp [ev_need_bank b, ev_need_purse b, hx, h0, h1, mu, show ¬ (6 : Int) ≤ j by omega]
          · simp [ev_need_bank b, ev_need_purse b, hx, h0, h1, show (6 : Int) ≤ j by omega]
        · simp [ev_need_bank b, ev_need_purse b, hx, h0]
      | _ => simp [ev_need_bank b, ev_need_purse b, hx, isNum]
    | _ => simp [isIx] at hx
  · simp [ev_need_bank b, ev_need_purse b, hx]
theorem ev_owner_none (x y : PyData) (h : AH) : f_owner_of [.d .none, .d x, .d y] h = .err "BadBank" [] h := by
  simp [f_owner_of, b_owner_of, ev_need_none]
end Q

set_option Elab.async false
set_option maxRecDepth 100000
set_option linter.all false
set_option autoImplicit false
/-! K19j: charters. -/
namespace Q
open PySem PySem.Spec PyProof.Rows L2 LamX
open Classical
theorem cutA_tail {α : Type} (xs : List α) : cutA xs (some 1) none = xs.tail := by
  cases xs with
  | nil => rfl
  | cons x xs =>
    have : HT.sIx (x :: xs).length 0 (some 1) = 1 := by
      have := HT.sIx_nat (x :: xs).length 0 1
      simp only [List.length_cons] at this ⊢
      rw [show (some (1 : Int)) = some ((1 : Nat) : Int) by rfl, this]
      omega
    unfold cutA
    rw [this, HT.sIx_none]
    simp
def ltI (x y : PyData) : Bool := match x, y with
  | .int i, .int j => decide (i < j)
  | _, _ => false
def ris (lt : PyData → PyData → Bool) (ds : List PyData) : Bool := (ds.zip ds.tail).all fun p => lt p.1 p.2
def areOwn (x : PyData) (m : Int) : Bool := match x with
  | .tuple ds => ds.all (isIx m) && ris ltI ds
  | _ => false
theorem own_one (m : Int) (hm : m ≤ 1000000) (y : PyData) (ρ : Env') (h : AH) (e1 : ρ[1]? = some (some (.d (.int m)))) (e2 : ρ[2]? = some (some (.d y))) : (eAnd (eCall 2 f_is_number (aCons (eVar 2) (aCons (eC (.int 0)) aNil))) (eOp ltO (eVar 2) (eVar 1))) ρ h = .ok (.d (.bool (isIx m y))) h := by
  rw [isIx_num hm]
  cases y with
  | int i =>
    by_cases h0 : isNum (.int i) 0 = true
    · simp [e1, e2, h0]
    · simp [e1, e2, h0]
  | _ => simp [e2, isNum]
theorem zip_iter {ds es : List PyData} (hl : ds.length ≤ 1000000) {ma mb : SemE} {ρ : Env'} {h : AH} (e1 : ma ρ h = .ok (.d (.tuple ds)) h) (e2 : mb ρ h = .ok (.d (.tuple es)) h) : iZip ma mb ρ h = .ok ((((ds.zip es).map fun p => PyData.tuple [p.1, p.2])).map .d, fun _ => True) h := by
  rw [ev_zip, e1, out_ok, e2, out_ok]
  simp only [toD_d]
  rw [if_pos hl, zipD_map]
def on2 (f : PyData → PyData → Bool) (x : PyData) : Bool := match x with
  | .tuple [a, b] => f a b
  | _ => false
@[simp] theorem on2_pair (f : PyData → PyData → Bool) (a b : PyData) : on2 f (.tuple [a, b]) = f a b := rfl
theorem all_on2 (as : List (PyData × PyData)) (f : PyData → PyData → Bool) : (as.map fun p => PyData.tuple [p.1, p.2]).all (on2 f) = as.all fun p => f p.1 p.2 := by
  rw [List.all_map]
  rfl
theorem ev_are_owners {x : PyData} {m : Int} (hm : m ≤ 1000000) (hx : sz x ≤ 1000000) (h : AH) : f_are_owners [.d x, .d (.int m)] h = .ok (.d (.bool (areOwn x m))) h := by
  unfold f_are_owners b_are_owners
  cases x with
  | tuple ds =>
    have hl : ds.length ≤ 1000000 := by
      rw [sz_tup] at hx
      have := szs_len ds
      omega
    simp
    rw [comp_map (ds := ds) (fun x => .bool (isIx m x)) ?e ?c ?he]
    case e => rfl
    case c => trivial
    case he => exact fun y _ => ⟨_, rfl, own_one m hm y _ h rfl rfl⟩
    simp only [out_ok, allO_map, ofOpt_some]
    by_cases al : ds.all (isIx m) = true
    · simp [al, areOwn]
      rw [comp_map (ds := (ds.zip ds.tail).map fun p => PyData.tuple [p.1, p.2]) (fun x => .bool (on2 ltI x)) ?e ?c ?he]
      case e => exact zip_iter hl rfl (by simp [cutO, cutA_tail])
      case c => trivial
      case he =>
        intro y hy
        obtain ⟨⟨a, b⟩, hab, rfl⟩ := List.mem_map.mp hy
        have ha := List.all_eq_true.mp al a (List.of_mem_zip hab).1
        have hb := List.all_eq_true.mp al b (List.mem_of_mem_tail (List.of_mem_zip hab).2)
        refine ⟨_, rfl, ?_⟩
        cases a <;> simp [isIx] at ha
        cases b <;> simp [isIx] at hb
        simp [wipR, ltI]
      simp only [out_ok, allO_map, ofOpt_some, all_on2]
      simp [ris]
    · simp [al, areOwn]
  | _ => simp [areOwn]
end Q

set_option Elab.async false
set_option maxRecDepth 100000
set_option linter.all false
set_option autoImplicit false
set_option maxHeartbeats 1000000
/-! K19k: is_charter. -/
namespace Q
open PySem PySem.Spec PyProof.Rows L2 LamX
open Classical
def isNil (x : PyData) : Bool := match x with
  | .tuple [] => true
  | _ => false
def within (a b : PyData) : Bool := match a, b with
  | .tuple as, .tuple bs => as.all fun x => bs.any fun z => z.eqv x
  | _, _ => false
def lotsOk (m : Int) (c : PyData) : Bool := match c with
  | .tuple ls => !ls.isEmpty && (ls.all fun l => areOwn l m && !isNil l) && ris PySem.W.dataLt ls && !(ls.any fun a => ls.any fun b => !(a.eqv b) && within a b)
  | _ => false
def isCharter (x : PyData) : Bool := match x with
  | .tuple [a, b, c] => (match a with
    | .int m => isNum a 1 && decide (m ≤ 6) && areOwn b m && !isNil b && lotsOk m c
    | _ => false)
  | _ => false
theorem areOwn_row {x : PyData} {m : Int} (e : areOwn x m = true) : ∃ ns : List Int, x = .tuple (ns.map .int) ∧ ∀ n ∈ ns, 0 ≤ n ∧ n < m := by
  unfold areOwn at e
  split at e
  · rename_i ds
    rw [Bool.and_eq_true] at e
    have key : ∀ ds : List PyData, ds.all (isIx m) = true → ∃ ns : List Int, ds = ns.map .int ∧ ∀ n ∈ ns, 0 ≤ n ∧ n < m := by
      intro ds
      induction ds with
      | nil => exact fun _ => ⟨[], rfl, by simp⟩
      | cons d ds ih =>
        intro h
        simp only [List.all_cons, Bool.and_eq_true] at h
        obtain ⟨ns, e1, e2⟩ := ih h.2
        cases d <;> simp [isIx] at h
        rename_i i
        exact ⟨i :: ns, by rw [e1]; rfl, by
          intro n hn
          rcases List.mem_cons.mp hn with rfl | hn
          · exact h.1
          · exact e2 n hn⟩
    obtain ⟨ns, e1, e2⟩ := key ds e.1
    exact ⟨ns, by rw [e1], e2⟩
  · cases e
theorem row_ck (ns : List Int) : ck 1 (.tuple (ns.map .int)) = true := by
  rw [ck_tup, List.all_map, List.all_eq_true]
  intro n _
  exact ck_int _ _
theorem row_okD (ns : List Int) : okD (.tuple (ns.map .int)) = true := ck_okD (row_ck ns) (by omega)
theorem row_alike (ns ms : List Int) : PySem.W.alike (.tuple (ns.map .int)) (.tuple (ms.map .int)) = true := by
  have := PySem.W.alike_ints ns ms
  simpa [PySem.W.alike] using this
theorem row_lt (ns ms : List Int) (h : AH) : ltO (.d (.tuple (ns.map .int))) (.d (.tuple (ms.map .int))) h = some (.d (.bool (PySem.W.dataLt (.tuple (ns.map .int)) (.tuple (ms.map .int))))) := by
  simp [ltO, cmpI, toD, okC, row_okD, row_alike, bO]
theorem nil_ev (x : PyData) (h : AH) (o : okD x = true) : neO (.d x) (.d (.tuple [])) h = some (.d (.bool (!isNil x))) := by
  rw [neD_ev _ _ _ o (by rfl)]
  cases x with
  | tuple ds =>
    cases ds <;> simp [PyData.eqv, PyData.eqvAll, isNil]
  | _ => simp [PyData.eqv, isNil]
theorem nilE_ev (x : PyData) (h : AH) (o : okD x = true) : eqO (.d x) (.d (.tuple [])) h = some (.d (.bool (isNil x))) := by
  rw [eqD_ev _ _ _ o (by rfl)]
  cases x with
  | tuple ds =>
    cases ds <;> simp [PyData.eqv, PyData.eqvAll, isNil]
  | _ => simp [PyData.eqv, isNil]
theorem plainAll_ints (ns : List Int) : PyData.plainAll (ns.map .int) = true := by
  induction ns with
  | nil => rfl
  | cons n ns ih => simp [PyData.plainAll, PyData.plain, ih]
theorem in_row (i : Int) (ns : List Int) (h : AH) : inO (.d (.int i)) (.d (.tuple (ns.map .int))) h = some (.d (.bool ((ns.map PyData.int).any fun z => z.eqv (.int i)))) := by
  simp only [inO, inB, toD_d]
  rw [if_pos (by simp [PyData.plain, PyData.depth, plainAll_ints])]
  rfl
theorem notin_row (i : Int) (ns : List Int) (h : AH) : notInO (.d (.int i)) (.d (.tuple (ns.map .int))) h = some (.d (.bool (!(ns.map PyData.int).any fun z => z.eqv (.int i)))) := by
  simp only [notInO, inB, toD_d]
  rw [if_pos (by simp [PyData.plain, PyData.depth, plainAll_ints])]
  rfl
theorem ev_within (ns ms : List Int) (h : AH) : f_all_within [.d (.tuple (ns.map .int)), .d (.tuple (ms.map .int))] h = .ok (.d (.bool (within (.tuple (ns.map .int)) (.tuple (ms.map .int))))) h := by
  unfold f_all_within b_all_within
  simp
  rw [comp_map (ds := ns.map .int) (fun x => .bool ((ms.map PyData.int).any fun z => z.eqv x)) ?e ?c ?he]
  case e => rfl
  case c => trivial
  case he =>
    intro x hx
    obtain ⟨i, _, rfl⟩ := List.mem_map.mp hx
    exact ⟨_, rfl, by simp [wipR, in_row, -List.any_map]⟩
  simp only [out_ok, allO_map, ofOpt_some]
  rfl
theorem sz_mem {x : PyData} : ∀ {ds : List PyData}, x ∈ ds → sz x ≤ szs ds
  | [], h => by cases h
  | d :: ds, h => by
    rw [szs_cons]
    rcases List.mem_cons.mp h with rfl | h
    · omega
    · have := sz_mem h
      omega
noncomputable def lotsS : SemS := (sSeq (sIf (tOrS (tNotS (tOf (eUn (isiO (isiB CLS "tuple")) (eVar 3)))) (tOrS (tOf (eOp eqO (eVar 3) (eTup aNil))) (tNotS (tOf (eApp allO (aCons (eComp [4] (iSeq (eVar 3)) (gN 4) tYesS (eAnd (eCall 2 f_are_owners (aCons (eVar 4) (aCons (eVar 1) aNil))) (eOp neO (eVar 4) (eTup aNil)))) aNil)))))) (sRet (eC (.bool false))) sNil)
    (sSeq (sIf (tNotS (tOf (eApp allO (aCons (eComp [5, 6] (iZip (eVar 3) (eSl (eVar 3) (oS (eC (.int 1))) oN)) (gT 2 (gsCons (gN 5) (gsCons (gN 6) gsNil))) tYesS (eOp ltO (eVar 5) (eVar 6))) aNil)))) (sRet (eC (.bool false))) sNil)
    (sRet (eNot (eApp anyO (aCons (eComp2 [5, 6] [6] (iSeq (eVar 3)) (gN 5) tYesS (iSeq (eVar 3)) (gN 6) tYesS (eAnd (eOp neO (eVar 5) (eVar 6)) (eCall 2 f_all_within (aCons (eVar 5) (aCons (eVar 6) aNil))))) aNil))))))
theorem ev_lots {m : Int} (hm : m ≤ 1000000) {c x a b : PyData} (hc : sz c ≤ 1000) (oc : okD c = true) (h : AH) : fnEnd (lotsS [some (.d x), some (.d (.int m)), some (.d b), some (.d c), none, none, none] h) = .ok (.d (.bool (lotsOk m c))) h := by
  unfold lotsS
  cases c with
  | tuple ls =>
    have hs : szs ls ≤ 1000 := by
      rw [sz_tup] at hc
      omega
    have hl : ls.length ≤ 1000 := by
      have := szs_len ls
      omega
    have pl : ∀ l ∈ ls, okD l = true := by
      intro l hl
      obtain ⟨p, d⟩ := okD_iff oc
      simp only [PyData.plain] at p
      simp only [PyData.depth] at d
      have p' : ∀ (ls : List PyData), PyData.plainAll ls = true → ∀ l ∈ ls, l.plain = true := by
        intro ls
        induction ls with
        | nil => intro _ l h; cases h
        | cons a ls ih =>
          intro h l hl
          simp only [PyData.plainAll, Bool.and_eq_true] at h
          rcases List.mem_cons.mp hl with rfl | hl
          · exact h.1
          · exact ih h.2 l hl
      have := depthAll_mem hl
      simp only [okD, p' ls p l hl, Bool.true_and, decide_eq_true_eq]
      omega
    have ie : isNil (.tuple ls) = ls.isEmpty := by cases ls <;> rfl
    simp [nilE_ev _ _ oc, ie]
    by_cases em : ls = []
    · subst em
      simp [lotsOk]
    · simp [em]
      rw [comp_map (ds := ls) (fun l => .bool (areOwn l m && !isNil l)) ?e ?c ?he]
      case e => rfl
      case c => trivial
      case he =>
        intro l hl
        have := sz_mem hl
        refine ⟨_, rfl, ?_⟩
        cases q : areOwn l m <;> simp [wipR, ev_are_owners hm (show sz l ≤ 1000000 by omega), q, nil_ev _ _ (pl l hl)]
      simp only [out_ok, allO_map, ofOpt_some]
      by_cases al : (ls.all fun l => areOwn l m && !isNil l) = true
      · have rows : ∀ l ∈ ls, ∃ ns : List Int, l = .tuple (ns.map .int) := fun l hl => by
          have := List.all_eq_true.mp al l hl
          rw [Bool.and_eq_true] at this
          obtain ⟨ns, e, _⟩ := areOwn_row this.1
          exact ⟨ns, e⟩
        simp only [al]
        simp
        rw [comp_map (ds := (ls.zip ls.tail).map fun p => PyData.tuple [p.1, p.2]) (fun x => .bool (on2 PySem.W.dataLt x)) ?e ?c ?he]
        case e => exact zip_iter (by omega) rfl (by simp [cutO, cutA_tail])
        case c => trivial
        case he =>
          intro y hy
          obtain ⟨⟨a, b⟩, hab, rfl⟩ := List.mem_map.mp hy
          obtain ⟨ns, rfl⟩ := rows a (List.of_mem_zip hab).1
          obtain ⟨ms, rfl⟩ := rows b (List.mem_of_mem_tail (List.of_mem_zip hab).2)
          refine ⟨_, rfl, ?_⟩
          simp [wipR, row_lt]
        simp only [out_ok, allO_map (on2 PySem.W.dataLt), ofOpt_some, all_on2]
        by_cases ri : ris PySem.W.dataLt ls = true
        · have ri' : ((ls.zip ls.tail).all fun p => PySem.W.dataLt p.1 p.2) = true := ri
          rw [ri']
          have c2 : comp2O [5, 6] [6] (iSeq (eVar 3)) (gN 5) tYesS (iSeq (eVar 3)) (gN 6) tYesS (eAnd (eOp neO (eVar 5) (eVar 6)) (eCall 2 f_all_within (aCons (eVar 5) (aCons (eVar 6) aNil)))) [some (.d x), some (.d (.int m)), some (.d b), some (.d (.tuple ls)), none, none, none] h = .ok ((ls.flatMap fun a => ls.map fun b => PyData.bool (!(a.eqv b) && within a b)).map .d) h := by
            have len : (ls.flatMap fun a => ls.map fun b => PyData.bool (!(a.eqv b) && within a b)).length ≤ 1000000 := by
              rw [List.length_flatMap]
              simp only [List.length_map]
              have : (ls.map fun _ => ls.length).sum = ls.length * ls.length := by
                rw [List.map_const', List.sum_replicate_nat]
              rw [this]
              calc ls.length * ls.length ≤ 1000 * 1000 := Nat.mul_le_mul hl hl
                _ = 1000000 := rfl
            unfold comp2O
            simp only [ev_seq, ev_var, List.getElem?_cons_zero, List.getElem?_cons_succ, out_ok]
            rw [compL2_ev (fun a => ls.map fun b => PyData.bool (!(a.eqv b) && within a b)) trivial ?k]
            case k =>
              intro a ha
              obtain ⟨ns, rfl⟩ := rows a ha
              refine ⟨_, rfl, rfl, ls, _, fun b => PyData.bool (!((PyData.tuple (ns.map .int)).eqv b) && within (.tuple (ns.map .int)) b), rfl, trivial, rfl, fun b hb => ?_⟩
              obtain ⟨ms, rfl⟩ := rows b hb
              refine ⟨_, rfl, ?_⟩
              cases q : (PyData.tuple (ns.map .int)).eqv (.tuple (ms.map .int)) <;> simp [wipR, neD_ev _ _ _ (row_okD ns) (row_okD ms), q, ev_within]
            simp only [List.length_map]
            rw [if_pos len]
          have bl : allBl (ls.flatMap fun a => ls.map fun b => PyData.bool (!(a.eqv b) && within a b)) = some (ls.flatMap fun a => ls.map fun b => (!(a.eqv b) && within a b)) := by
            have : (ls.flatMap fun a => ls.map fun b => PyData.bool (!(a.eqv b) && within a b)) = (ls.flatMap fun a => ls.map fun b => (!(a.eqv b) && within a b)).map PyData.bool := by
              rw [List.map_flatMap]
              simp [List.map_map]
              rfl
            rw [this]
            have q := allBl_mapT (fun b => b) (ls.flatMap fun a => ls.map fun b => (!(a.eqv b) && within a b))
            simp only [List.map_id'] at q
            exact q
          have em' : ls.isEmpty = false := by simpa using em
          simp [eComp2, c2, anyO, bl]
          simp [lotsOk, em', al, ri, Function.comp_def]
        · have ri' : ((ls.zip ls.tail).all fun p => PySem.W.dataLt p.1 p.2) = false := by simpa [ris] using ri
          rw [ri']
          simp [lotsOk, ri]
      · simp only [al]
        simp [lotsOk, al]
  | _ => simp [lotsOk]
end Q

set_option Elab.async false
set_option maxRecDepth 100000
set_option linter.all false
set_option autoImplicit false
set_option maxHeartbeats 1000000
/-! K19l: is_charter whole; need_charter. -/
namespace Q
open PySem PySem.Spec PyProof.Rows L2 LamX
open Classical
noncomputable def ch1 : SemS := (sIf (tOrS (tNotS (tOf (eUn (isiO (isiB CLS "tuple")) (eVar 0)))) (tOf (eOp neO (eApp lenO (aCons (eVar 0) aNil)) (eC (.int 3))))) (sRet (eC (.bool false))) sNil)
noncomputable def ch2 : SemS := (sAsg (gT 3 (gsCons (gN 1) (gsCons (gN 2) (gsCons (gN 3) gsNil)))) (eVar 0))
noncomputable def ch3 : SemS := (sIf (tOrS (tNotS (tOf (eCall 2 f_is_number (aCons (eVar 1) (aCons (eC (.int 1)) aNil))))) (tOrS (tOf (eOp gtO (eVar 1) (eC (.int 6)))) (tOrS (tNotS (tOf (eCall 2 f_are_owners (aCons (eVar 2) (aCons (eVar 1) aNil))))) (tOf (eOp eqO (eVar 2) (eTup aNil)))))) (sRet (eC (.bool false))) sNil)
theorem b_charter_eq : b_is_charter = sSeq ch1 (sSeq ch2 (sSeq ch3 lotsS)) := rfl
theorem plainAll_mem : ∀ (ls : List PyData), PyData.plainAll ls = true → ∀ l ∈ ls, l.plain = true
  | [], _, _, h => by cases h
  | a :: ls, h, l, hl => by
    simp only [PyData.plainAll, Bool.and_eq_true] at h
    rcases List.mem_cons.mp hl with rfl | hl
    · exact h.1
    · exact plainAll_mem ls h.2 l hl
theorem okD_mem {ls : List PyData} (o : okD (.tuple ls) = true) {l : PyData} (hl : l ∈ ls) : okD l = true := by
  obtain ⟨p, d⟩ := okD_iff o
  simp only [PyData.plain] at p
  simp only [PyData.depth] at d
  have := depthAll_mem hl
  simp only [okD, plainAll_mem ls p l hl, Bool.true_and, decide_eq_true_eq]
  omega
theorem ev_is_charter {x : PyData} (hx : sz x ≤ 1000) (ox : okD x = true) (h : AH) : f_is_charter [.d x] h = .ok (.d (.bool (isCharter x))) h := by
  unfold f_is_charter
  rw [mkFn_end, b_charter_eq]
  simp only [List.map, List.length, List.replicate, List.cons_append, List.nil_append, Nat.reduceSub, Nat.reduceAdd]
  cases x with
  | tuple ds =>
    rcases ds with _ | ⟨a, _ | ⟨b, _ | ⟨c, _ | ⟨d, ds⟩⟩⟩⟩
    · simp [ch1, isCharter]
    · simp [ch1, isCharter]
    · simp [ch1, isCharter]
    · have sb : sz b ≤ 1000 := Nat.le_trans (Nat.le_trans (sz_mem (ds := [a, b, c]) (by simp)) (by rw [sz_tup]; omega)) hx
      have sc : sz c ≤ 1000 := Nat.le_trans (Nat.le_trans (sz_mem (ds := [a, b, c]) (by simp)) (by rw [sz_tup]; omega)) hx
      have ob : okD b = true := okD_mem ox (by simp)
      have oc : okD c = true := okD_mem ox (by simp)
      cases a with
      | int m =>
        by_cases n1 : isNum (.int m) 1 = true
        · by_cases n2 : m ≤ 6
          · have ow := ev_are_owners (x := b) (m := m) (by omega) (by omega) h
            by_cases n3 : areOwn b m = true
            · by_cases n4 : isNil b = true
              · simp [ch1, ch2, ch3, isCharter, n1, n2, n3, n4, ow, nilE_ev _ _ ob, show ¬ (6 : Int) < m by omega]
              · have lo := ev_lots (m := m) (by omega) (c := c) (x := .tuple [.int m, b, c]) (a := b) (b := b) sc oc h
                simp [ch1, ch2, ch3, isCharter, n1, n2, n3, n4, ow, nilE_ev _ _ ob, show ¬ (6 : Int) < m by omega]
                exact lo
            · simp [ch1, ch2, ch3, isCharter, n1, n2, n3, ow, show ¬ (6 : Int) < m by omega]
          · simp [ch1, ch2, ch3, isCharter, n1, n2, show (6 : Int) < m by omega]
        · simp [ch1, ch2, ch3, isCharter, n1]
      | _ => simp [ch1, ch2, ch3, isCharter, isNum]
    · have e : ¬ ((ds.length : Int) + 1 + 1 + 1 + 1 = 3) := by omega
      simp [ch1, isCharter, e]
  | _ => simp [ch1, isCharter]
theorem ev_need_charter {x : PyData} (hx : sz x ≤ 1000) (ox : okD x = true) (h : AH) : f_need_charter [.d x] h = if isCharter x = true then .ok (.d .none) h else .err "BadCharter" [] h := by
  unfold f_need_charter b_need_charter
  by_cases e : isCharter x = true <;> simp [ev_is_charter hx ox, e]
end Q

set_option Elab.async false
set_option maxRecDepth 100000
set_option linter.all false
set_option autoImplicit false
set_option maxHeartbeats 1000000
/-! K19m: shuffled. -/
namespace Q
open PySem PySem.Spec PyProof.Rows L2 LamX
open Classical
theorem er_map {α β : Type} (f : α → β) : ∀ (L : List α) (n : Nat), (L.map f).eraseIdx n = (L.eraseIdx n).map f
  | [], _ => rfl
  | _ :: _, 0 => rfl
  | x :: L, n + 1 => by simp [er_map f L n]
theorem er_perm {α : Type} : ∀ (L : List α) (n : Nat) (h : n < L.length), (L[n] :: L.eraseIdx n).Perm L
  | [], _, h => by cases h
  | x :: L, 0, _ => .refl _
  | x :: L, n + 1, h => by
    have ih := er_perm L n (by simpa using h)
    simp only [List.getElem_cons_succ, List.eraseIdx_cons_succ]
    exact (List.Perm.swap _ _ _).trans (ih.cons _)
noncomputable def shB : SemS := (sExpr (eMt appendM (eVar 3) (aCons (eMt popAtM (eVar 2) (aCons (eCall 2 f__law_draw (aCons (eVar 0) (aCons (eApp lenO (aCons (eVar 2) aNil)) aNil))) aNil)) aNil)))
theorem sh_while (p q l f : Nat) (lf : l ≠ f) (dl : l ≠ p ∧ l ≠ q) (df : f ≠ p ∧ f ≠ q) (x : Option W) : ∀ (n : Nat) (L F : List PyData) (h : AH) (k : Nat), L.length = n → TpAt h p q k → k + n ≤ 1000000000 → h.f f = some (.lst (F.map .d)) → h.f l = some (.lst (L.map .d)) → l < h.n ∧ f < h.n → F.length + n ≤ 1000000 → ∃ (fu : Nat) (h' : AH) (G : List PyData), whN (tOf (eOp neO (eVar 2) (eLstD aNil))) shB fu [some (.ref p), x, some (.ref l), some (.ref f)] h = some (.nx [some (.ref p), x, some (.ref l), some (.ref f)] h') ∧ h'.f f = some (.lst ((F ++ G).map .d)) ∧ G.Perm L ∧ TpAt h' p q (k + n) ∧ Same [p, q, l, f] h h'
  | 0, L, F, h, k, hn, tp, hk, hf, hl, lt, hz => by
    have : L = [] := List.eq_nil_of_length_eq_zero hn
    subst this
    refine ⟨1, h, [], ?_, by simpa using hf, .refl _, tp, Same.refl _ _⟩
    simp [whN, neNil hl]
  | n + 1, L, F, h, k, hn, tp, hk, hf, hl, lt, hz => by
    have ne : neO (.ref l) (.d (.list [])) h = some (.d (.bool true)) := by
      rw [neNil hl]
      cases L with
      | nil => cases hn
      | cons _ _ => rfl
    obtain ⟨v, h1, e1, v0, v1, tp1, s1⟩ := ev_draw tp (by omega) (size := (L.length : Int)) (by omega) (by omega)
    have hl1 : h1.f l = some (.lst (L.map .d)) := by rw [s1.2 l lt.1 (by simp [dl])]; exact hl
    have hf1 : h1.f f = some (.lst (F.map .d)) := by rw [s1.2 f lt.2 (by simp [df])]; exact hf
    have n1 := s1.1
    have hv : v.toNat < L.length := by omega
    have gv : (L.map W.d)[v.toNat]? = some (.d L[v.toNat]) := by simp [hv]
    have pp : popAtM l (L.map .d) [.d (.int v)] h1 = some (.d L[v.toNat], h1.set l (.lst ((L.eraseIdx v.toNat).map .d))) := by
      have c : v = 0 ∨ (0 ≤ v ∧ v < 1000000) := by omega
      simp only [popAtM, if_pos c, gv, Option.map_some, er_map]
    obtain ⟨fu, h', G, e2, e3, e4, tp', s'⟩ := sh_while p q l f lf dl df x n (L.eraseIdx v.toNat) (F ++ [L[v.toNat]]) ((h1.set l (.lst ((L.eraseIdx v.toNat).map .d))).set f (.lst ((F ++ [L[v.toNat]]).map .d))) (k + 1) (by rw [List.length_eraseIdx_of_lt hv]; omega) (((tp1.same (S := [l, f]) (((Same.refl _ h1).set (by simp)).set (by simp)) (by simp; exact ⟨⟨fun z => dl.1 z.symm, fun z => df.1 z.symm⟩, fun z => dl.2 z.symm, fun z => df.2 z.symm⟩))).mono (by omega)) (by omega) (by simp) (by simp [lf]) (by simp; omega) (by simp; omega)
    refine ⟨fu + 1, h', L[v.toNat] :: G, ?_, by rw [e3]; simp, ?_, by rw [show k + (n + 1) = k + 1 + n by omega]; exact tp', ?_⟩
    · have step : shB [some (.ref p), x, some (.ref l), some (.ref f)] h = .nx [some (.ref p), x, some (.ref l), some (.ref f)] ((h1.set l (.lst ((L.eraseIdx v.toNat).map .d))).set f (.lst ((F ++ [L[v.toNat]]).map .d))) := by
        have ll : lenO [.ref l] h = some (.d (.int L.length)) := by simp [lenO, lenL, hl]
        simp [shB, lstAt, hf, hl, ll, e1, hl1, pp, hf1, lf, Ne.symm lf, appendM, show F.length < 1000000 by omega]
      unfold whN
      simp only [ev_tOf, ev_op, ev_var, List.getElem?_cons_zero, List.getElem?_cons_succ, out_ok, ev_lstD, ev_nil, allD_nil, Option.bind_some, List.length_nil, Nat.zero_le, if_true, ofOpt_some, ne, step]
      exact e2
    · exact (List.Perm.cons _ e4).trans (er_perm L _ hv)
    · have s2 : Same [p, q, l, f] h ((h1.set l (.lst ((L.eraseIdx v.toNat).map .d))).set f (.lst ((F ++ [L[v.toNat]]).map .d))) := ((s1.mono (by simp)).set (by simp)).set (by simp)
      exact s2.trans s'
theorem ev_shuffled {h : AH} {p q k : Nat} {ds : List PyData} (tp : TpAt h p q k) (hk : k + ds.length ≤ 1000000000) (hl : ds.length ≤ 1000) : ∃ (f : Nat) (h' : AH) (G : List PyData), f__law_shuffled [.ref p, .d (.list ds)] h = .ok (.ref f) h' ∧ h'.f f = some (.lst (G.map .d)) ∧ G.Perm ds ∧ TpAt h' p q (k + ds.length) ∧ Same [p, q] h h' ∧ h.n ≤ f ∧ f < h'.n := by
  have lt := tp.lt
  obtain ⟨fu, h', G, e1, e2, e3, tp', s'⟩ := sh_while p q h.n (h.n + 1) (by omega) (by omega) (by omega) (some (.d (.list ds))) ds.length ds [] ((h.new (.lst (ds.map .d))).new (.lst [])) k rfl (tp.same (S := []) (((Same.refl _ h).new).new) (by simp)) hk (by simp) (by simp) (by simp; omega) (by simp; omega)
  refine ⟨h.n + 1, h', G, ?_, by simpa using e2, e3, tp', ?_, by omega, ?_⟩
  · simp [f__law_shuffled, b__law_shuffled, eListH]
    rw [show (sExpr (eMt appendM (eVar 3) (aCons (eMt popAtM (eVar 2) (aCons (eCall 2 f__law_draw (aCons (eVar 0) (aCons (eApp lenO (aCons (eVar 2) aNil)) aNil))) aNil)) aNil))) = shB from rfl, sWhile_of e1]
    simp
  · refine ⟨by have := s'.1; simp at this; omega, fun j hj hs => ?_⟩
    rw [s'.2 j (by simp; omega) (by simp at hs ⊢; omega)]
    rw [new_f, if_neg (by simp; omega), new_f, if_neg (by omega)]
  · have := s'.1
    simp at this
    omega
end Q

set_option Elab.async false
set_option maxRecDepth 100000
set_option linter.all false
set_option autoImplicit false
set_option maxHeartbeats 1000000
/-! K19n: sorting ints and rows. -/
namespace Q
open PySem PySem.Spec PyProof.Rows L2 LamX
open Classical
theorem le_int (a b : Int) : PySem.W.dataLe false (fun d : PyData => d) (.int a) (.int b) = decide (a ≤ b) := by
  rw [PySem.W.dataLe_eq]
  simp only [cond_false, PySem.W.dataLt_int]
  by_cases h : b < a
  · simp [h, show ¬ a ≤ b by omega]
  · simp [h, show a ≤ b by omega]
theorem lt_row (a b : List Int) : PySem.W.dataLt (.tuple (a.map .int)) (.tuple (b.map .int)) = decide (a < b) := by
  rw [PySem.W.dataLt_tuple]
  exact PySem.W.dataLt_ints a b
theorem le_row (a b : List Int) : PySem.W.dataLe false (fun d : PyData => d) (.tuple (a.map .int)) (.tuple (b.map .int)) = decide (a ≤ b) := by
  rw [PySem.W.dataLe_eq]
  simp only [cond_false, lt_row]
  by_cases h : b < a
  · simp [h]
  · simp [h]
    exact List.not_lt.mp h
theorem srt_by {α : Type} (f : α → PyData) (le : α → α → Bool) (hle : ∀ a b, PySem.W.dataLe false (fun d : PyData => d) (f a) (f b) = le a b) (tr : ∀ a b c, le a b = true → le b c = true → le a c = true) (tot : ∀ a b, (le a b || le b a) = true) (xs : List α) : ∃ ys : List α, srt (xs.map f) = ys.map f ∧ ys.Perm xs ∧ ys.Pairwise (fun a b => le a b = true) := by
  refine ⟨xs.mergeSort le, ?_, List.mergeSort_perm _ _, List.pairwise_mergeSort (le := le) tr tot xs⟩
  unfold srt
  rw [List.map_mergeSort]
  intro a _ b _
  exact (hle a b).symm
theorem srt_ints (ns : List Int) : ∃ ms : List Int, srt (ns.map .int) = ms.map .int ∧ ms.Perm ns ∧ ms.Pairwise (· ≤ ·) := by
  obtain ⟨ys, e, p, s⟩ := srt_by (fun i : Int => PyData.int i) (fun a b => decide (a ≤ b)) le_int (fun a b c => by simp; omega) (fun a b => by simp; omega) ns
  exact ⟨ys, e, p, s.imp fun h => by simpa using h⟩
theorem srt_rows (ns : List (List Int)) : ∃ ms : List (List Int), srt (ns.map fun r => .tuple (r.map .int)) = (ms.map fun r => .tuple (r.map .int)) ∧ ms.Perm ns ∧ ms.Pairwise (· ≤ ·) := by
  obtain ⟨ys, e, p, s⟩ := srt_by (fun r : List Int => PyData.tuple (r.map .int)) (fun a b => decide (a ≤ b)) le_row (fun a b c h1 h2 => by simp at *; exact List.le_trans h1 h2) (fun a b => by simp; exact List.le_total a b) ns
  exact ⟨ys, e, p, s.imp fun h => by simpa using h⟩
theorem okS_ints {ns : List Int} (h : ns.length ≤ 1000000) : okSrt (ns.map .int) := by
  refine ⟨by simpa using h, ?_, ?_, .inr ?_⟩
  · intro d hd
    obtain ⟨i, _, rfl⟩ := List.mem_map.mp hd
    rfl
  · intro d hd e he
    obtain ⟨i, _, rfl⟩ := List.mem_map.mp hd
    obtain ⟨j, _, rfl⟩ := List.mem_map.mp he
    rfl
  · intro d hd
    obtain ⟨i, _, rfl⟩ := List.mem_map.mp hd
    exact ⟨by simp, fun xs => by simp⟩
theorem okS_rows {ns : List (List Int)} (h : ns.length ≤ 1000000) (ne : ∀ r ∈ ns, r ≠ []) : okSrt (ns.map fun r => .tuple (r.map .int)) := by
  refine ⟨by simpa using h, ?_, ?_, .inl ?_⟩
  · intro d hd
    obtain ⟨r, _, rfl⟩ := List.mem_map.mp hd
    exact row_okD r
  · intro d hd e he
    obtain ⟨i, _, rfl⟩ := List.mem_map.mp hd
    obtain ⟨j, _, rfl⟩ := List.mem_map.mp he
    exact row_alike i j
  · intro d hd
    obtain ⟨r, hr, rfl⟩ := List.mem_map.mp hd
    cases r with
    | nil => exact absurd rfl (ne _ hr)
    | cons i r => exact ⟨_, _, rfl⟩
theorem sorted_ints {ns : List Int} (hl : ns.length ≤ 1000000) {x : W} {h : AH} (e : toD h x = some (.list (ns.map .int))) : ∃ ms : List Int, sortedO [x] h = some (.d (.list (ms.map .int))) ∧ ms.Perm ns ∧ ms.Pairwise (· ≤ ·) := by
  obtain ⟨ms, e1, p, s⟩ := srt_ints ns
  refine ⟨ms, ?_, p, s⟩
  unfold sortedO
  simp only [e, if_pos (okS_ints hl), e1]
theorem sorted_rows {ns : List (List Int)} (hl : ns.length ≤ 1000000) (ne : ∀ r ∈ ns, r ≠ []) {x : W} {h : AH} (e : toD h x = some (.list (ns.map fun r => .tuple (r.map .int)))) : ∃ ms : List (List Int), sortedO [x] h = some (.d (.list (ms.map fun r => .tuple (r.map .int)))) ∧ ms.Perm ns ∧ ms.Pairwise (· ≤ ·) := by
  obtain ⟨ms, e1, p, s⟩ := srt_rows ns
  refine ⟨ms, ?_, p, s⟩
  unfold sortedO
  simp only [e, if_pos (okS_rows hl ne), e1]
theorem strict_of {α : Type} [LT α] [LE α] {l : List α} (h : l.Pairwise (· ≤ ·)) (nd : l.Nodup) (k : ∀ a b : α, a ≤ b → a ≠ b → a < b) : l.Pairwise (· < ·) := by
  refine (h.and nd).imp fun hab => k _ _ hab.1 hab.2
theorem ris_of {lt : PyData → PyData → Bool} : ∀ {ds : List PyData}, ds.Pairwise (fun a b => lt a b = true) → ris lt ds = true
  | [], _ => rfl
  | [a], _ => rfl
  | a :: b :: r, h => by
    have ih := ris_of (ds := b :: r) (List.pairwise_cons.mp h).2
    have hab := (List.pairwise_cons.mp h).1 b (List.mem_cons_self ..)
    simp only [ris, List.tail_cons, List.zip_cons_cons, List.all_cons, hab, Bool.true_and] at ih ⊢
    exact ih
theorem ris_pair {lt : PyData → PyData → Bool} {x y : PyData} (hx : lt x y = false) : ∀ (a b : List PyData), ris lt (a ++ x :: y :: b) = false
  | [], b => by simp [ris, hx]
  | [z], b => by simp [ris, hx]
  | u :: z :: a, b => by
    have ih := ris_pair hx (z :: a) b
    simp only [ris, List.cons_append, List.tail_cons, List.zip_cons_cons, List.all_cons] at ih ⊢
    rw [ih, Bool.and_false]
end Q

set_option Elab.async false
set_option maxRecDepth 100000
set_option linter.all false
set_option autoImplicit false
set_option maxHeartbeats 1000000
/-! K19o: a drawn bank. -/
namespace Q
open PySem PySem.Spec PyProof.Rows L2 LamX
open Classical
theorem ints_of_mem {S : List Int} : ∀ {ds : List PyData}, (∀ d ∈ ds, ∃ i ∈ S, d = .int i) → ∃ ns : List Int, ds = ns.map .int ∧ ∀ n ∈ ns, n ∈ S
  | [], _ => ⟨[], rfl, by simp⟩
  | d :: ds, h => by
    obtain ⟨i, hi, rfl⟩ := h d (List.mem_cons_self ..)
    obtain ⟨ns, e, k⟩ := ints_of_mem (ds := ds) fun y hy => h y (List.mem_cons_of_mem _ hy)
    refine ⟨i :: ns, by rw [e]; rfl, fun n hn => ?_⟩
    rcases List.mem_cons.mp hn with rfl | hn
    · exact hi
    · exact k n hn
theorem sum_le {ns : List Int} {B : Int} (h : ∀ n ∈ ns, n ≤ B) : ns.sum ≤ B * ns.length := by
  induction ns with
  | nil => simp
  | cons n ns ih =>
    have := ih fun m hm => h m (List.mem_cons_of_mem _ hm)
    have h0 := h n (List.mem_cons_self ..)
    simp only [List.sum_cons, List.length_cons]
    have : B * ((ns.length + 1 : Nat) : Int) = B * ns.length + B := by
      rw [Int.natCast_add, Int.mul_add]
      simp
    omega
theorem ev_bank {h : AH} {p q k : Nat} (tp : TpAt h p q k) (hk : k ≤ 900000000) {N : Int} (N1 : 1 ≤ N) (N8 : N ≤ 8) : ∃ (ns : List Int) (m l : Int) (h' : AH), f__law_bank [.ref p, .d (.int N)] h = .ok (.d (bankD ns m l)) h' ∧ BankOk ns m l ∧ (ns.length : Int) ≤ N ∧ TpAt h' p q (k + 20) ∧ Same [p, q] h h' := by
  obtain ⟨l, h1, e1, l0, l1, tp1, s1⟩ := ev_draw tp (by omega) (size := 3) (by omega) (by decide)
  obtain ⟨z, h2, e2, z0, z1, tp2, s2⟩ := ev_draw tp1 (by omega) (size := N) (by omega) (by omega)
  have key := compL_cnt (chk := fun _ => True) (g := gN 4) (me := eCall 2 f__law_pick (aCons (eVar 0) (aCons (eLstD (aCons (eC (.int 0)) (aCons (eC (.int 1)) (aCons (eC (.int 3)) (aCons (eC (.int 5)) (aCons (eC (.int 9)) aNil)))))) aNil))) (ρ := [some (.ref p), some (.d (.int N)), some (.d (.int l)), none, none]) (fun i h => TpAt h p q (k + 2 + i) ∧ Same [p, q] h2 h) (fun w => ∃ i ∈ ([0, 1, 3, 5, 9] : List Int), w = .d (.int i)) (fun _ _ _ => trivial) (rngW 0 (1 + z).toNat) 0 h2 ⟨tp2, Same.refl _ _⟩ (by
    intro x hx
    refine ⟨_, rfl, fun j h hj hl ⟨tpj, sj⟩ => ?_⟩
    have len : (rngW 0 (1 + z).toNat).length = (1 + z).toNat := by simp [rngW]
    rw [len] at hl
    obtain ⟨y, h', e, hy, tp', s'⟩ := ev_pick tpj (by omega) (ds := [.int 0, .int 1, .int 3, .int 5, .int 9]) (by simp) (by simp)
    refine ⟨.d y, h', ?_, ⟨by rw [show k + 2 + (j + 1) = k + 2 + j + 1 by omega]; exact tp', sj.trans s'⟩, ?_⟩
    · simp [e]
    · simp only [List.mem_cons, List.not_mem_nil, or_false] at hy
      rcases hy with rfl | rfl | rfl | rfl | rfl <;> exact ⟨_, by simp, rfl⟩)
  obtain ⟨ys, h3, e3, ⟨tp3, s3⟩, ly, hy⟩ := key
  have len : (rngW 0 (1 + z).toNat).length = (1 + z).toNat := by simp [rngW]
  rw [len] at tp3 ly
  obtain ⟨ds, rfl⟩ := allD_of (ws := ys) (fun w hw => by
    obtain ⟨i, _, e⟩ := hy w hw
    exact ⟨_, e⟩)
  obtain ⟨ns, rfl, hn⟩ := ints_of_mem (S := [0, 1, 3, 5, 9]) (ds := ds) (fun d hd => by
    obtain ⟨i, hi, e⟩ := hy (.d d) (List.mem_map.mpr ⟨d, hd, rfl⟩)
    cases e
    exact ⟨i, hi, rfl⟩)
  simp only [List.length_map] at ly
  obtain ⟨y, h4, e4, y0, y1, tp4, s4⟩ := ev_draw tp3 (by omega) (size := 3) (by omega) (by decide)
  have n9 : ∀ n ∈ ns, 0 ≤ n ∧ n ≤ 9 := fun n hm => by
    have := hn n hm
    simp only [List.mem_cons, List.not_mem_nil, or_false] at this
    rcases this with rfl | rfl | rfl | rfl | rfl <;> omega
  have su := sum_le (B := 9) (fun n hm => (n9 n hm).2)
  have mu : mulO (.d (.int 3)) (.d (.int l)) h3 = some (.d (.int (3 * l))) := mul_ev 4 10 (by decide) (by omega) (by omega) (by omega) (by omega) h3
  refine ⟨ns, 3 * l + 1 + y, l, h4, ?_, ⟨by omega, fun n hm => ⟨(n9 n hm).1, by have := (n9 n hm).2; omega⟩, by omega, l0, by omega⟩, by omega, tp4.mono (by omega), ((s1.trans s2).trans s3).trans s4⟩
  unfold f__law_bank b__law_bank
  simp [e1]
  rw [comp_of (ds := ns.map .int) (ws := rngW 0 (1 + z).toNat) (chk := fun _ => True) (h1 := h2) (h2 := h3) ?e e3]
  case e =>
    rw [ev_range1]
    simp [e2]
    omega
  simp [tupleO, mu, e4, bankD]
end Q

set_option Elab.async false
set_option maxRecDepth 100000
set_option linter.all false
set_option autoImplicit false
set_option maxHeartbeats 1000000
/-! K19p: a drawn charter. -/
namespace Q
open PySem PySem.Spec PyProof.Rows L2 LamX
open Classical
def rowT (r : List Int) : PyData := .tuple (r.map .int)
def chD (m : Int) (ps : List Int) (rows : List (List Int)) : PyData := .tuple [.int m, rowT ps, .tuple (rows.map rowT)]
structure RowOk (m : Int) (r : List Int) : Prop where
  ne : r ≠ []
  lt : r.Pairwise (· < ·)
  rng : ∀ n ∈ r, 0 ≤ n ∧ n < m
  len : r.length ≤ 5
structure ChOk (m : Int) (ps : List Int) (rows : List (List Int)) : Prop where
  lim : 1 ≤ m ∧ m ≤ 5
  pok : RowOk m ps
  ne : rows ≠ []
  cnt : rows.length ≤ 6
  rok : ∀ r ∈ rows, RowOk m r
  lt : rows.Pairwise (· < ·)
  anti : ∀ a ∈ rows, ∀ b ∈ rows, a ≠ b → ∃ x ∈ a, x ∉ b
theorem areOwn_of {m : Int} {r : List Int} (k : RowOk m r) : areOwn (rowT r) m = true := by
  show ((r.map PyData.int).all (isIx m) && ris ltI (r.map PyData.int)) = true
  rw [Bool.and_eq_true]
  constructor
  · rw [List.all_map, List.all_eq_true]
    intro n hn
    have := k.rng n hn
    simp [isIx, this.1, this.2]
  · refine ris_of ?_
    rw [List.pairwise_map]
    exact k.lt.imp fun h => by simpa [ltI] using h
theorem mapInt_inj : ∀ a b : List Int, a.map PyData.int = b.map PyData.int → a = b
  | [], [], _ => rfl
  | [], _ :: _, h => by cases h
  | _ :: _, [], h => by cases h
  | x :: a, y :: b, h => by
    simp only [List.map_cons, List.cons.injEq, PyData.int.injEq] at h
    rw [h.1, mapInt_inj a b h.2]
theorem eqv_row (a b : List Int) : (rowT a).eqv (rowT b) = decide (a = b) := by
  by_cases e : a = b
  · subst e
    simp [(ck_eqv 1 _ _ (row_ck a) 1 (row_ck a)).mpr rfl, rowT]
  · have : ¬ (rowT a).eqv (rowT b) = true := fun z => e (by
      have := (ck_eqv 1 _ _ (row_ck a) 1 (row_ck b)).mp z
      injection this with this
      exact mapInt_inj a b this)
    simp [e, this]
theorem any_eqv (b : List Int) (i : Int) : ((b.map PyData.int).any fun z => z.eqv (.int i)) = decide (i ∈ b) := by
  rw [List.any_map]
  induction b with
  | nil => simp
  | cons x b ih =>
    rw [List.any_cons, ih]
    by_cases e : x = i
    · simp [e, PyData.eqv]
    · simp [e, Ne.symm e, PyData.eqv]
theorem within_row (a b : List Int) : within (rowT a) (rowT b) = a.all fun x => decide (x ∈ b) := by
  show (a.map PyData.int).all (fun x => (b.map PyData.int).any fun z => z.eqv x) = _
  rw [List.all_map]
  congr 1
  funext x
  exact any_eqv b x
theorem charter_ok {m : Int} {ps : List Int} {rows : List (List Int)} (k : ChOk m ps rows) : isCharter (chD m ps rows) = true := by
  have m1 := k.lim
  have n1 : isNum (.int m) 1 = true := by simp [isNum]; omega
  have n2 : m ≤ 6 := by omega
  have p1 := areOwn_of k.pok
  have nn : ∀ r : List Int, r ≠ [] → isNil (rowT r) = false := fun r hr => by
    cases r with
    | nil => exact absurd rfl hr
    | cons _ _ => rfl
  have p2 := nn _ k.pok.ne
  have l1 : lotsOk m (.tuple (rows.map rowT)) = true := by
    have e1 : (rows.map rowT).isEmpty = false := by
      cases rows with
      | nil => exact absurd rfl k.ne
      | cons _ _ => rfl
    have e2 : ((rows.map rowT).all fun l => areOwn l m && !isNil l) = true := by
      rw [List.all_map, List.all_eq_true]
      intro r hr
      simp [areOwn_of (k.rok r hr), nn r (k.rok r hr).ne]
    have e3 : ris PySem.W.dataLt (rows.map rowT) = true := by
      refine ris_of ?_
      rw [List.pairwise_map]
      exact k.lt.imp fun {a b} h => by rw [show PySem.W.dataLt (rowT a) (rowT b) = _ from lt_row a b]; simpa using h
    have e4 : ((rows.map rowT).any fun a => (rows.map rowT).any fun b => !(a.eqv b) && within a b) = false := by
      rw [List.any_map, List.any_eq_false]
      intro a ha
      simp only [Function.comp_apply, List.any_map, Bool.not_eq_true, List.any_eq_false]
      intro b hb
      simp only [Function.comp_apply, eqv_row, within_row]
      by_cases ne : a = b
      · simp [ne]
      · obtain ⟨x, hx, hn⟩ := k.anti a ha b hb ne
        have : (a.all fun x => decide (x ∈ b)) = false := by
          rw [List.all_eq_false]
          exact ⟨x, hx, by simpa using hn⟩
        simp [ne, this]
    simp only [lotsOk, e1, e2, e3, e4]
    rfl
  simp only [chD, isCharter, n1, decide_eq_true n2, p1, p2, l1]
  rfl
end Q

set_option Elab.async false
set_option maxRecDepth 100000
set_option linter.all false
set_option autoImplicit false
set_option maxHeartbeats 1000000
/-! K19q: a charter is drawn. -/
namespace Q
open PySem PySem.Spec PyProof.Rows L2 LamX
open Classical
theorem nd_map {α β : Type} {f : α → β} (inj : ∀ a b, f a = f b → a = b) {l : List α} (h : l.Nodup) : (l.map f).Nodup := List.pairwise_map.mpr (h.imp fun hab z => hab (inj _ _ z))
theorem nd_of {α β : Type} {f : α → β} {l : List α} (h : (l.map f).Nodup) : l.Nodup := (List.pairwise_map.mp h).imp fun hab z => hab (congrArg f z)
theorem cutA_take {α : Type} (xs : List α) (k : Nat) : cutA xs none (some (k : Int)) = xs.take k := by
  unfold cutA
  rw [HT.sIx_none, HT.sIx_nat, List.drop_zero, Nat.sub_zero]
  by_cases h : k ≤ xs.length
  · rw [Nat.min_eq_left h]
  · rw [Nat.min_eq_right (by omega), List.take_of_length_le (Nat.le_refl _), List.take_of_length_le (by omega)]
/-- the ints below m -/
def intsTo (m : Nat) : List Int := (List.range m).map fun (i : Nat) => (i : Int)
theorem intsTo_mem {m : Nat} {i : Int} : i ∈ intsTo m ↔ 0 ≤ i ∧ i < m := by
  simp only [intsTo, List.mem_map, List.mem_range]
  constructor
  · rintro ⟨k, hk, rfl⟩
    omega
  · intro h
    exact ⟨i.toNat, by omega, by omega⟩
theorem intsTo_nd (m : Nat) : (intsTo m).Nodup := by
  exact nd_map (fun a b h => Int.ofNat.inj h) List.nodup_range
theorem rngD_ints (m : Nat) : rngD 0 (m : Int) = (intsTo m).map .int := by
  unfold rngD intsTo
  rw [List.map_map, Int.sub_zero, Int.toNat_natCast]
  congr 1
  funext i
  show PyData.int (0 + (i : Int)) = .int (i : Int)
  rw [Int.zero_add]
theorem rngW_ints (m : Nat) : rngW 0 m = ((intsTo m).map PyData.int).map .d := by
  unfold rngW intsTo
  rw [List.map_map, List.map_map]
  congr 1
  funext i
  show W.d (.int (0 + (i : Int))) = .d (.int (i : Int))
  rw [Int.zero_add]
theorem perm_ints {G : List PyData} {L : List Int} (p : G.Perm (L.map .int)) (nd : L.Nodup) : ∃ ns : List Int, G = ns.map .int ∧ ns.Nodup ∧ (∀ n, n ∈ ns → n ∈ L) ∧ ns.length = L.length := by
  obtain ⟨ns, e, k⟩ := ints_of_mem (S := L) (ds := G) (fun d hd => by
    obtain ⟨i, hi, e⟩ := List.mem_map.mp (p.mem_iff.mp hd)
    exact ⟨i, hi, e.symm⟩)
  subst e
  refine ⟨ns, rfl, ?_, k, by simpa using p.length_eq⟩
  have : (ns.map PyData.int).Nodup := p.nodup_iff.mpr (nd_map (fun a b h => by injection h) nd)
  exact nd_of this
theorem ev_part {h : AH} {p q k : Nat} (tp : TpAt h p q k) (hk : k ≤ 900000000) {m : Int} (m1 : 1 ≤ m ∧ m ≤ 5) {ρ : Env'} (e0 : ρ[0]? = some (some (.ref p))) (e1 : ρ[1]? = some (some (.d (.int m)))) : ∃ (r : List Int) (h' : AH), (eApp tupleO (aCons (eApp sortedO (aCons (eSl (eCall 2 f__law_shuffled (aCons (eVar 0) (aCons (eList0 (eVar 1)) aNil))) oN (oS (eOp addO (eC (.int 1)) (eCall 2 f__law_draw (aCons (eVar 0) (aCons (eVar 1) aNil)))))) aNil)) aNil)) ρ h = .ok (.d (rowT r)) h' ∧ RowOk m r ∧ TpAt h' p q (k + 10) ∧ Same [p, q] h h' := by
  obtain ⟨M, rfl⟩ : ∃ M : Nat, m = (M : Int) := ⟨m.toNat, by omega⟩
  obtain ⟨f, h1, G, a1, a2, pm, tp1, s1, f1, f2⟩ := ev_shuffled (ds := rngD 0 (M : Int)) tp (by rw [rngD_ints]; simp [intsTo]; omega) (by rw [rngD_ints]; simp [intsTo]; omega)
  obtain ⟨v, h2, b1, v0, v1, tp2, s2⟩ := ev_draw tp1 (by rw [rngD_ints]; simp [intsTo]; omega) (size := (M : Int)) (by omega) (by omega)
  have fq := tp.lt
  have a3 : h2.f f = some (.lst (G.map .d)) := by rw [s2.2 f f2 (by simp; omega)]; exact a2
  rw [rngD_ints] at pm
  obtain ⟨ns, rfl, nd, rng, len⟩ := perm_ints pm (intsTo_nd M)
  have lenM : ns.length = M := by rw [len]; simp [intsTo]
  obtain ⟨K, hK⟩ : ∃ K : Nat, 1 + v = (K : Int) := ⟨(1 + v).toNat, by omega⟩
  have cut : cutO (.ref f) none (some (1 + v)) h2 = some (.d (.list ((ns.take K).map .int))) := by
    have : toD h2 (.ref f) = some (.list (ns.map .int)) := by simp only [toD, a3, ev_allD_map, Option.map_some]
    simp only [cutO, this, hK, cutA_take, List.map_take]
  obtain ⟨ms, c1, c2, c3⟩ := sorted_ints (ns := ns.take K) (x := .d (.list ((ns.take K).map .int))) (h := h2) (by rw [List.length_take]; omega) rfl
  have nd' : ms.Nodup := c2.nodup_iff.mpr (nd.sublist (List.take_sublist _ _))
  refine ⟨ms, h2, ?_, ⟨?_, strict_of c3 nd' (fun a b h1 h2 => by omega), ?_, by have := c2.length_eq; rw [List.length_take] at this; omega⟩, tp2.mono (by rw [rngD_ints]; simp [intsTo]; omega), s1.trans s2⟩
  · have hM : (0 : Int) ≤ (M : Int) ∧ (M : Int) ≤ 1000000 := by omega
    simp [e0, e1, hM, a1, b1, cut, c1, tupleO, rowT, -List.map_take]
  · intro z
    subst z
    have := c2.length_eq
    simp only [List.length_nil, List.length_take] at this
    omega
  · intro n hn
    exact intsTo_mem.mp (rng n (List.mem_of_mem_take (c2.mem_iff.mp hn)))
theorem ev_charter {h : AH} {p q k : Nat} (tp : TpAt h p q k) (hk : k ≤ 800000000) : ∃ (m : Int) (ps : List Int) (rows : List (List Int)) (h' : AH), f__law_charter [.ref p] h = .ok (.d (chD m ps rows)) h' ∧ ChOk m ps rows ∧ TpAt h' p q (k + 40) ∧ Same [p, q] h h' := by
  obtain ⟨v, h1, a1, v0, v1, tp1, s1⟩ := ev_draw tp (by omega) (size := 5) (by omega) (by decide)
  have m5 : 1 ≤ 1 + v ∧ 1 + v ≤ 5 := by omega
  obtain ⟨ps, h2, a2, pok, tp2, s2⟩ := ev_part (ρ := [some (.ref p), some (.d (.int (1 + v))), none, none, none, none]) tp1 (by omega) m5 rfl rfl
  obtain ⟨fs, h3, a3, fok, tp3, s3⟩ := ev_part (ρ := [some (.ref p), some (.d (.int (1 + v))), some (.d (rowT ps)), none, none, none]) tp2 (by omega) m5 rfl rfl
  obtain ⟨M, hM⟩ : ∃ M : Nat, 1 + v = (M : Int) := ⟨(1 + v).toNat, by omega⟩
  have key := compL_nd (chk := fun _ => True) (g := gN 5) (mt := (tAndS (tOf (eOp notInO (eVar 5) (eVar 3))) (tOf (eOp eqO (eCall 2 f__law_draw (aCons (eVar 0) (aCons (eC (.int 2)) aNil))) (eC (.int 0)))))) (me := eTup (aCons (eVar 5) aNil)) (ρ := [some (.ref p), some (.d (.int (1 + v))), some (.d (rowT ps)), some (.d (rowT fs)), none, none]) (fun i h => TpAt h p q (k + 21 + i) ∧ Same [p, q] h3 h) (fun w => ∃ i, w = .d (.int i) ∧ i ∉ fs) (fun w => match w with
    | .d (.int i) => .d (rowT [i])
    | w => w) (fun _ _ _ => trivial) (rngW 0 M) 0 h3 ⟨tp3.mono (by omega), Same.refl _ _⟩ (by
    intro x hx
    rw [rngW_ints, List.map_map] at hx
    obtain ⟨i, hi, rfl⟩ := List.mem_map.mp hx
    refine ⟨_, rfl, fun j h hj hl ⟨tpj, sj⟩ => ?_⟩
    have len : (rngW 0 M).length = M := by simp [rngW]
    rw [len] at hl
    have nin : notInO (.d (.int i)) (.d (rowT fs)) h = some (.d (.bool (decide (i ∉ fs)))) := by
      rw [show notInO (.d (.int i)) (.d (rowT fs)) h = _ from notin_row i fs h, any_eqv]
      simp
    by_cases e : i ∈ fs
    · exact ⟨false, h, by simp [nin, e], ⟨tpj.mono (by omega), sj⟩, fun z => by cases z⟩
    · obtain ⟨y, h', b1, y0, y1, tp', s'⟩ := ev_draw tpj (by omega) (size := 2) (by omega) (by decide)
      refine ⟨decide (y = 0), h', by simp [nin, e, b1], ⟨by rw [show k + 21 + (j + 1) = k + 21 + j + 1 by omega]; exact tp', sj.trans s'⟩, fun _ => ⟨⟨i, rfl, e⟩, ?_⟩⟩
      simp [rowT])
  obtain ⟨ws, h4, b1, ⟨tp4, s4⟩, sub, cs⟩ := key
  have len : (rngW 0 M).length = M := by simp [rngW]
  rw [len] at tp4
  rw [rngW_ints, List.map_map] at sub
  obtain ⟨os, subo, rfl⟩ := List.sublist_map_iff.mp sub
  have osn : ∀ o ∈ os, o ∉ fs := fun o ho => by
    obtain ⟨i, e, hi⟩ := cs _ (List.mem_map.mpr ⟨o, ho, rfl⟩)
    cases e
    exact hi
  have osd : os.Nodup := (intsTo_nd M).sublist subo
  have osr : ∀ o ∈ os, 0 ≤ o ∧ o < (1 + v) := fun o ho => by
    have := intsTo_mem.mp (subo.subset ho)
    omega
  have b2 : (os.map (W.d ∘ PyData.int)).map (fun w => match w with
    | .d (.int i) => W.d (rowT [i])
    | w => w) = ((os.map fun o => [o]).map rowT).map .d := by
    rw [List.map_map, List.map_map, List.map_map]
    rfl
  rw [b2] at b1
  have hne : ∀ r ∈ fs :: os.map (fun o => [o]), r ≠ [] := by
    intro r hr
    rcases List.mem_cons.mp hr with rfl | hr
    · exact fok.ne
    · obtain ⟨o, _, rfl⟩ := List.mem_map.mp hr
      simp
  have hlen : os.length ≤ M := by
    have := subo.length_le
    simpa [intsTo] using this
  obtain ⟨ms, c1, c2, c3⟩ := sorted_rows (ns := fs :: os.map (fun o => [o])) (x := .d (.list (rowT fs :: (os.map fun o => [o]).map rowT))) (h := h4) (by simp; omega) hne rfl
  have sing : ∀ a ∈ fs :: os.map (fun o => [o]), ∀ b ∈ fs :: os.map (fun o => [o]), a ≠ b → ∃ x ∈ a, x ∉ b := by
    intro a ha b hb ne
    rcases List.mem_cons.mp ha with ea | ha' <;> rcases List.mem_cons.mp hb with eb | hb'
    · exact absurd (ea.trans eb.symm) ne
    · obtain ⟨o, ho, rfl⟩ := List.mem_map.mp hb'
      subst ea
      cases a with
      | nil => exact absurd rfl fok.ne
      | cons x a =>
        refine ⟨x, List.mem_cons_self .., fun z => ?_⟩
        rw [List.mem_singleton] at z
        subst z
        exact osn _ ho (List.mem_cons_self ..)
    · obtain ⟨o, ho, rfl⟩ := List.mem_map.mp ha'
      subst eb
      exact ⟨o, by simp, osn o ho⟩
    · obtain ⟨o, ho, rfl⟩ := List.mem_map.mp ha'
      obtain ⟨o', ho', rfl⟩ := List.mem_map.mp hb'
      exact ⟨o, by simp, fun z => ne (by rw [List.mem_singleton.mp z])⟩
  have nd0 : (fs :: os.map (fun o => [o])).Nodup := by
    rw [List.nodup_cons]
    refine ⟨fun z => ?_, ?_⟩
    · obtain ⟨o, ho, e⟩ := List.mem_map.mp z
      exact osn o ho (by rw [← e]; simp)
    · exact nd_map (fun a b h => by simpa using h) osd
  refine ⟨1 + v, ps, ms, h4, ?_, ⟨m5, pok, fun z => ?_, by have := c2.length_eq; simp at this; omega, fun r hr => ?_, strict_of c3 (c2.nodup_iff.mpr nd0) (fun a b h1 h2 => ?_), fun a ha b hb => sing a (c2.mem_iff.mp ha) b (c2.mem_iff.mp hb)⟩, tp4.mono (by omega), ((s1.trans s2).trans s3).trans s4⟩
  · unfold f__law_charter b__law_charter
    rw [mkFn_end]
    simp only [List.map, List.length, List.replicate, List.cons_append, List.nil_append, Nat.reduceSub, Nat.reduceAdd]
    have q1 : (sSet 1 (eOp addO (eC (.int 1)) (eCall 2 f__law_draw (aCons (eVar 0) (aCons (eC (.int 5)) aNil))))) [some (.ref p), none, none, none, none, none] h = .nx [some (.ref p), some (.d (.int (1 + v))), none, none, none, none] h1 := by simp [a1]
    rw [ev_sSeq, q1]
    simp only
    rw [ev_sSeq, ev_sSet, a2]
    simp only [st_ok, List.set]
    rw [ev_sSeq, ev_sSet, a3]
    simp only [st_ok, List.set]
    rw [ev_sSeq, ev_sSet, ev_op, ev_lstD]
    simp only [ev_cons, ev_var, List.getElem?_cons_zero, List.getElem?_cons_succ, out_ok, ev_nil, allD_d, allD_nil, Option.map_some, Option.bind_some, List.length_cons, List.length_nil, Nat.zero_add, show (1 : Nat) ≤ 1000 from by decide, if_true, ofOpt_some]
    rw [comp_of (ds := (os.map fun o => [o]).map rowT) (ws := rngW 0 M) (chk := fun _ => True) (h1 := h3) (h2 := h4) ?e b1]
    case e =>
      rw [ev_range1]
      simp only [ev_var, List.getElem?_cons_zero, List.getElem?_cons_succ, out_ok]
      rw [if_pos (by omega), hM]
      rfl
    have ad : addO (.d (.list [rowT fs])) (.d (.list ((os.map fun o => [o]).map rowT))) h4 = some (.d (.list (rowT fs :: (os.map fun o => [o]).map rowT))) := by
      simp [addO]
      omega
    simp [ad, c1, tupleO, -List.map_map]
    rfl
  · subst z
    have := c2.length_eq
    simp at this
  · rcases List.mem_cons.mp (c2.mem_iff.mp hr) with rfl | hr
    · exact fok
    · obtain ⟨o, ho, rfl⟩ := List.mem_map.mp hr
      exact ⟨by simp, by simp, by simpa using osr o ho, by simp⟩
  · exact Std.lt_of_le_of_ne h1 h2
end Q

set_option Elab.async false
set_option maxRecDepth 100000
set_option linter.all false
set_option autoImplicit false
set_option maxHeartbeats 1000000
/-! K19r: values near to a charter. -/
namespace Q
open PySem PySem.Spec PyProof.Rows L2 LamX
open Classical
/-- plain, not deeper than n -/
def Pl (n : Nat) (x : PyData) : Prop := x.plain = true ∧ x.depth ≤ n
theorem Pl.all {n : Nat} : ∀ {xs : List PyData}, (∀ x ∈ xs, Pl n x) → PyData.plainAll xs = true ∧ PyData.depthAll xs ≤ n
  | [], _ => ⟨rfl, Nat.zero_le _⟩
  | x :: xs, h => by
    obtain ⟨a, b⟩ := Pl.all (xs := xs) fun y hy => h y (List.mem_cons_of_mem _ hy)
    obtain ⟨c, d⟩ := h x (List.mem_cons_self ..)
    refine ⟨by simp [PyData.plainAll, a, c], ?_⟩
    simp only [PyData.depthAll]
    omega
theorem Pl.tup {n : Nat} {xs : List PyData} (h : ∀ x ∈ xs, Pl n x) : Pl (n + 1) (.tuple xs) := by
  obtain ⟨a, b⟩ := Pl.all h
  refine ⟨by simpa [PyData.plain] using a, ?_⟩
  simp only [PyData.depth]
  omega
theorem Pl.lst {n : Nat} {xs : List PyData} (h : ∀ x ∈ xs, Pl n x) : Pl (n + 1) (.list xs) := by
  obtain ⟨a, b⟩ := Pl.all h
  refine ⟨by simpa [PyData.plain] using a, ?_⟩
  simp only [PyData.depth]
  omega
theorem Pl.mono {n m : Nat} {x : PyData} (h : Pl n x) (l : n ≤ m) : Pl m x := ⟨h.1, Nat.le_trans h.2 l⟩
theorem Pl.ok {n : Nat} {x : PyData} (h : Pl n x) (l : n ≤ 64) : okD x = true := by
  simp only [okD, h.1, Bool.true_and, decide_eq_true_eq]
  have := h.2
  omega
theorem pl_int (n : Nat) (i : Int) : Pl n (.int i) := ⟨rfl, Nat.zero_le _⟩
theorem pl_none (n : Nat) : Pl n .none := ⟨rfl, Nat.zero_le _⟩
theorem pl_bool (n : Nat) (b : Bool) : Pl n (.bool b) := ⟨rfl, Nat.zero_le _⟩
theorem pl_row (r : List Int) : Pl 1 (rowT r) := Pl.tup fun x hx => by
  obtain ⟨i, _, rfl⟩ := List.mem_map.mp hx
  exact pl_int 0 i
theorem pl_rowL (r : List Int) : Pl 1 (.list (r.map .int)) := Pl.lst fun x hx => by
  obtain ⟨i, _, rfl⟩ := List.mem_map.mp hx
  exact pl_int 0 i
theorem szs_le {B : Nat} : ∀ {xs : List PyData}, (∀ x ∈ xs, sz x ≤ B) → szs xs ≤ B * xs.length
  | [], _ => by simp [szs_nil]
  | x :: xs, h => by
    have ih := szs_le (xs := xs) fun y hy => h y (List.mem_cons_of_mem _ hy)
    have h0 := h x (List.mem_cons_self ..)
    rw [szs_cons, List.length_cons, Nat.mul_succ]
    omega
theorem sz_int (i : Int) : sz (.int i) = 1 := by rw [sz]; intro _ z; cases z
theorem szs_ints (r : List Int) : szs (r.map .int) ≤ r.length := by
  have := szs_le (B := 1) (xs := r.map PyData.int) fun x hx => by
    obtain ⟨i, _, rfl⟩ := List.mem_map.mp hx
    rw [sz_int]
    omega
  simpa using this
def nears (m : Int) (ps : List Int) (rows : List (List Int)) : List PyData :=
  [.none, .list [.int m, rowT ps, .tuple (rows.map rowT)], .tuple [.int m, rowT ps, .tuple (rows.map rowT), .int 0], .tuple [.int 0, rowT ps, .tuple (rows.map rowT)], .tuple [.int 7, rowT ps, .tuple (rows.map rowT)], .tuple [.bool true, rowT ps, .tuple (rows.map rowT)], .tuple [.int m, .tuple [], .tuple (rows.map rowT)]] ++
  [.tuple [.int m, rowT (ps.reverse ++ ps), .tuple (rows.map rowT)], .tuple [.int m, rowT [m], .tuple (rows.map rowT)], .tuple [.int m, .list (ps.map .int), .tuple (rows.map rowT)], .tuple [.int m, rowT ps, .tuple []]] ++
  [.tuple [.int m, rowT ps, .tuple ((rows ++ rows.take 1).map rowT)], .tuple [.int m, rowT ps, .tuple [.tuple []]], .tuple [.int m, rowT ps, .list (rows.map rowT)], .tuple [.int m, rowT ps, .tuple [rowT [m]]]] ++
  [.tuple [.int m, rowT ps, .tuple (rows.map fun r => .list (r.map .int))]]
theorem addLL (a b : List PyData) (h : AH) : addO (.d (.list a)) (.d (.list b)) h = if a.length + b.length ≤ 1000000 then some (.d (.list (a ++ b))) else none := rfl
theorem listO_row (r : List Int) (h : AH) : listO [.d (rowT r)] h = some (.d (.list (r.map .int))) := rfl
theorem listO_T (ds : List PyData) (h : AH) : listO [.d (.tuple ds)] h = some (.d (.list ds)) := rfl
theorem ev_near {m : Int} {ps : List Int} {rows : List (List Int)} (k : ChOk m ps rows) (h : AH) : f__law_near [.d (chD m ps rows)] h = .ok (.d (.list (nears m ps rows))) h := by
  have c1 := k.cnt
  have c2 := k.pok.len
  have cut : cutO (.d (.tuple (rows.map rowT))) none (some 1) h = some (.d (.tuple ((rows.take 1).map rowT))) := by
    have := cutA_take (rows.map rowT) 1
    simp only [cutO, toD_d]
    rw [show (some (1 : Int)) = some ((1 : Nat) : Int) from rfl, this, List.map_take]
  have a1 : addO (.d (.tuple (rows.map rowT))) (.d (.tuple ((rows.take 1).map rowT))) h = some (.d (.tuple ((rows ++ rows.take 1).map rowT))) := by
    simp only [addO, toD_d]
    rw [if_pos (by simp only [List.length_map, List.length_take]; omega), List.map_append]
  have rv : revO (.d (rowT ps)) h = some (.d (rowT ps.reverse)) := by simp [revO, rowT]
  have a3 : addO (.d (rowT ps.reverse)) (.d (rowT ps)) h = some (.d (rowT (ps.reverse ++ ps))) := by
    simp only [addO, toD_d, rowT]
    rw [if_pos (by simp only [List.length_map, List.length_reverse]; omega), List.map_append]
  have a4 : addO (.d (.tuple [.int m, rowT ps, .tuple (rows.map rowT)])) (.d (.tuple [.int 0])) h = some (.d (.tuple [.int m, rowT ps, .tuple (rows.map rowT), .int 0])) := rfl
  have lc : eComp [5] (iSeq (eVar 3)) (gN 5) tYesS (eApp listO (aCons (eVar 5) aNil)) = eComp [5] (iSeq (eVar 3)) (gN 5) tYesS (eApp listO (aCons (eVar 5) aNil)) := rfl
  unfold f__law_near b__law_near chD
  rw [mkFn_end]
  simp [a4, rv, cut, a1, a3, addLL, listO_row, listO_T, -List.map_map, -List.map_append, -List.map_take]
  rw [comp_map (ds := rows.map rowT) (fun x => match x with | .tuple ds => .list ds | x => x) ?e ?c ?he]
  case e => rfl
  case c => trivial
  case he =>
    intro x hx
    obtain ⟨r, _, rfl⟩ := List.mem_map.mp hx
    exact ⟨_, rfl, by simp [wipR, listO_row, rowT, listO_T]⟩
  simp [tupleO, addLL, nears, rowT]
theorem sz_row (r : List Int) : sz (rowT r) ≤ r.length + 1 := by
  rw [rowT, sz_tup]
  have := szs_ints r
  omega
theorem sz_lst (xs : List PyData) : sz (.list xs) = 1 := by
  rw [sz]
  intro _ z
  cases z
theorem sz_none' : sz .none = 1 := by rw [sz]; intro _ z; cases z
theorem sz_bool' (b : Bool) : sz (.bool b) = 1 := by rw [sz]; intro _ z; cases z
theorem sz_rows {m : Int} {ps : List Int} {rows : List (List Int)} (k : ChOk m ps rows) : ∀ ls : List (List Int), (∀ r ∈ ls, r ∈ rows) → szs (ls.map rowT) ≤ 6 * ls.length := fun ls hl => by
  have := szs_le (B := 6) (xs := ls.map rowT) fun x hx => by
    obtain ⟨r, hr, rfl⟩ := List.mem_map.mp hx
    have := (k.rok r (hl r hr)).len
    have := sz_row r
    omega
  simpa using this
theorem near_ok {m : Int} {ps : List Int} {rows : List (List Int)} (k : ChOk m ps rows) : ∀ x ∈ nears m ps rows, sz x ≤ 1000 ∧ okD x = true := by
  have c1 := k.cnt
  have c2 := k.pok.len
  have p1 := sz_row ps
  have p2 := sz_row (ps.reverse ++ ps)
  have p3 := sz_row [m]
  have r1 := sz_rows k rows fun _ h => h
  have r2 := sz_rows k (rows ++ rows.take 1) fun r hr => by
    rcases List.mem_append.mp hr with h | h
    · exact h
    · exact List.mem_of_mem_take h
  have r3 := szs_le (B := 1) (xs := rows.map fun r => PyData.list (r.map .int)) fun x hx => by
    obtain ⟨r, _, rfl⟩ := List.mem_map.mp hx
    rw [sz_lst]
    omega
  simp only [List.length_append, List.length_take, List.length_reverse, List.length_cons, List.length_nil, List.length_map] at p2 p3 r2 r3
  have q1 : Pl 2 (.tuple (rows.map rowT)) := Pl.tup fun x hx => by
    obtain ⟨r, _, rfl⟩ := List.mem_map.mp hx
    exact pl_row r
  have q2 : Pl 2 (.tuple ((rows ++ rows.take 1).map rowT)) := Pl.tup fun x hx => by
    obtain ⟨r, _, rfl⟩ := List.mem_map.mp hx
    exact pl_row r
  have q3 : Pl 2 (.list (rows.map rowT)) := Pl.lst fun x hx => by
    obtain ⟨r, _, rfl⟩ := List.mem_map.mp hx
    exact pl_row r
  have q4 : Pl 2 (.tuple (rows.map fun r => .list (r.map .int))) := Pl.tup fun x hx => by
    obtain ⟨r, _, rfl⟩ := List.mem_map.mp hx
    exact pl_rowL r
  have q5 : Pl 2 (.tuple [rowT [m]]) := Pl.tup fun x hx => by
    rw [List.mem_singleton.mp hx]
    exact pl_row _
  have q6 : Pl 2 (.tuple [.tuple []]) := Pl.tup fun x hx => by
    rw [List.mem_singleton.mp hx]
    exact (Pl.tup (n := 0) fun x hx => by cases hx)
  have q7 : Pl 2 (.tuple []) := Pl.tup fun x hx => by cases hx
  have z1 : sz (.tuple (rows.map rowT)) ≤ 40 := by rw [sz_tup]; omega
  have z2 : sz (.tuple ((rows ++ rows.take 1).map rowT)) ≤ 60 := by rw [sz_tup]; omega
  have z3 : sz (.list (rows.map rowT)) ≤ 40 := by rw [sz_lst]; omega
  have z4 : sz (.tuple (rows.map fun r => .list (r.map .int))) ≤ 40 := by rw [sz_tup]; omega
  have z5 : sz (.tuple [rowT [m]]) ≤ 40 := by rw [sz_tup, szs_cons, szs_nil]; omega
  have z6 : sz (.tuple [.tuple []]) ≤ 40 := by rw [sz_tup, szs_cons, szs_nil, sz_tup, szs_nil]; omega
  have z7 : sz (.tuple []) ≤ 40 := by rw [sz_tup, szs_nil]; omega
  have three : ∀ {a b c : PyData}, Pl 2 a → Pl 2 b → Pl 2 c → sz a ≤ 60 → sz b ≤ 60 → sz c ≤ 60 → sz (.tuple [a, b, c]) ≤ 1000 ∧ okD (.tuple [a, b, c]) = true := by
    intro a b c h1 h2 h3 s1 s2 s3
    refine ⟨?_, (Pl.tup (n := 2) fun x hx => ?_).ok (by omega)⟩
    · rw [sz_tup, szs_cons, szs_cons, szs_cons, szs_nil]
      omega
    · simp only [List.mem_cons, List.not_mem_nil, or_false] at hx
      rcases hx with rfl | rfl | rfl
      · exact h1
      · exact h2
      · exact h3
  have I := fun i : Int => pl_int 2 i
  have R := fun r : List Int => (pl_row r).mono (show 1 ≤ 2 by omega)
  have si : ∀ i : Int, sz (.int i) ≤ 60 := fun i => by rw [sz_int]; omega
  intro x hx
  simp only [nears, List.mem_append, List.mem_cons, List.not_mem_nil, or_false, or_assoc] at hx
  rcases hx with rfl | rfl | rfl | rfl | rfl | rfl | rfl | rfl | rfl | rfl | rfl | rfl | rfl | rfl | rfl | rfl
  · exact ⟨by rw [sz_none']; omega, rfl⟩
  · refine ⟨by rw [sz_lst]; omega, (Pl.lst (n := 2) fun x hx => ?_).ok (by omega)⟩
    simp only [List.mem_cons, List.not_mem_nil, or_false] at hx
    rcases hx with rfl | rfl | rfl
    · exact I _
    · exact R _
    · exact q1
  · refine ⟨by rw [sz_tup, szs_cons, szs_cons, szs_cons, szs_cons, szs_nil, sz_int, sz_int]; omega, (Pl.tup (n := 2) fun x hx => ?_).ok (by omega)⟩
    simp only [List.mem_cons, List.not_mem_nil, or_false] at hx
    rcases hx with rfl | rfl | rfl | rfl
    · exact I _
    · exact R _
    · exact q1
    · exact I _
  · exact three (I _) (R _) q1 (si _) (by omega) (by omega)
  · exact three (I _) (R _) q1 (si _) (by omega) (by omega)
  · exact three (pl_bool 2 _) (R _) q1 (by rw [sz_bool']; omega) (by omega) (by omega)
  · exact three (I _) q7 q1 (si _) (by omega) (by omega)
  · exact three (I _) (R _) q1 (si _) (by omega) (by omega)
  · exact three (I _) (R _) q1 (si _) (by omega) (by omega)
  · exact three (I _) ((pl_rowL _).mono (by omega)) q1 (si _) (by rw [sz_lst]; omega) (by omega)
  · exact three (I _) (R _) q7 (si _) (by omega) (by omega)
  · exact three (I _) (R _) q2 (si _) (by omega) (by omega)
  · exact three (I _) (R _) q6 (si _) (by omega) (by omega)
  · exact three (I _) (R _) q3 (si _) (by omega) (by omega)
  · exact three (I _) (R _) q5 (si _) (by omega) (by omega)
  · exact three (I _) (R _) q4 (si _) (by omega) (by omega)
theorem near_bad {m : Int} {ps : List Int} {rows : List (List Int)} (k : ChOk m ps rows) : ∀ x ∈ nears m ps rows, isCharter x = false := by
  have mm : areOwn (rowT [m]) m = false := by simp [areOwn, rowT, isIx]
  intro x hx
  simp only [nears, List.mem_append, List.mem_cons, List.not_mem_nil, or_false, or_assoc] at hx
  rcases hx with rfl | rfl | rfl | rfl | rfl | rfl | rfl | rfl | rfl | rfl | rfl | rfl | rfl | rfl | rfl | rfl
  · rfl
  · rfl
  · rfl
  · simp [isCharter, isNum]
  · simp [isCharter]
  · rfl
  · simp [isCharter, isNil]
  · have : areOwn (rowT (ps.reverse ++ ps)) m = false := by
      obtain ⟨x, r, e⟩ : ∃ x r, ps = x :: r := by
        cases ps with
        | nil => exact absurd rfl k.pok.ne
        | cons x r => exact ⟨x, r, rfl⟩
      show (((ps.reverse ++ ps).map PyData.int).all (isIx m) && ris ltI ((ps.reverse ++ ps).map PyData.int)) = false
      have : ris ltI ((ps.reverse ++ ps).map PyData.int) = false := by
        rw [e]
        simp only [List.reverse_cons, List.append_assoc, List.map_append, List.map_cons, List.map_nil]
        exact ris_pair (by simp [ltI]) _ _
      rw [this, Bool.and_false]
    simp [isCharter, this]
  · simp [isCharter, mm]
  · simp [isCharter, areOwn]
  · simp [isCharter, lotsOk]
  · have : lotsOk m (.tuple ((rows ++ rows.take 1).map rowT)) = false := by
      have : ris PySem.W.dataLt ((rows ++ rows.take 1).map rowT) = false := by
        obtain ⟨r0, rest, e⟩ : ∃ x r, rows = x :: r := by
          cases rows with
          | nil => exact absurd rfl k.ne
          | cons x r => exact ⟨x, r, rfl⟩
        obtain ⟨init, l, e2⟩ : ∃ init l, rows = init ++ [l] := ⟨rows.dropLast, rows.getLast k.ne, (List.dropLast_concat_getLast k.ne).symm⟩
        have ht : rows.take 1 = [r0] := by rw [e]; rfl
        rw [ht, e2]
        simp only [List.append_assoc, List.cons_append, List.nil_append, List.map_append, List.map_cons, List.map_nil]
        refine ris_pair ?_ _ _
        rw [show PySem.W.dataLt (rowT l) (rowT r0) = _ from lt_row l r0]
        have hp := k.lt
        have : ¬ l < r0 := by
          cases init with
          | nil =>
            rw [e] at e2
            simp only [List.nil_append, List.cons.injEq] at e2
            rw [e2.1]
            exact List.lt_irrefl _
          | cons y init =>
            rw [e] at e2
            simp only [List.cons_append, List.cons.injEq] at e2
            obtain ⟨rfl, rfl⟩ := e2
            rw [e] at hp
            have := (List.pairwise_cons.mp hp).1 l (by simp)
            intro z
            exact List.lt_irrefl _ (List.lt_trans this z)
        simpa using this
      simp only [lotsOk, this, Bool.and_false, Bool.false_and]
    simp [isCharter, this, -List.map_append, -List.map_take]
  · have : lotsOk m (.tuple [.tuple []]) = false := by simp [lotsOk, isNil]
    simp [isCharter, this]
  · simp [isCharter, lotsOk]
  · have : lotsOk m (.tuple [rowT [m]]) = false := by simp [lotsOk, mm]
    simp [isCharter, this]
  · have : lotsOk m (.tuple (rows.map fun r => .list (r.map .int))) = false := by
      obtain ⟨r0, rest, e⟩ : ∃ x r, rows = x :: r := by
        cases rows with
        | nil => exact absurd rfl k.ne
        | cons x r => exact ⟨x, r, rfl⟩
      simp [lotsOk, e, areOwn]
    simp [isCharter, this]
end Q

set_option Elab.async false
set_option maxRecDepth 100000
set_option linter.all false
set_option autoImplicit false
set_option maxHeartbeats 1000000
/-! K19t: outer_form. -/
namespace Q
open PySem PySem.Spec PyProof.Rows L2 LamX
open Classical
@[simp] theorem neS_ev (x y : Str) (h : AH) : neO (.d (.str x)) (.d (.str y)) h = some (.d (.bool (!(x == y)))) := by
  rw [neD_ev _ _ _ (by rfl) (by rfl)]; simp [PyData.eqv]
def isNone (x : PyData) : Bool := match x with
  | .none => true
  | _ => false
def isS (w : String) (x : PyData) : Bool := match x with
  | .str s => s == Str.ofString w
  | _ => false
def czOk (n nb : Nat) (z : PyData) : Bool := match z with
  | .tuple cz => decide (cz.length = nb) && cz.all fun c => isNone c || isNm n c
  | _ => false
/-- a content of the outer form of a payment, n names given, nb purses -/
def outC (n nb : Nat) (c : PyData) : Bool := match c with
  | .tuple [s, p, k, t, a, z] => isS "pay" s && (isIx nb p && (isIx nb t && (isNum k 1 && (isNum a 1 && czOk n nb z))))
  | _ => false
def pay6 (c : PyData) : Bool := match c with
  | .tuple [s, _, _, _, _, _] => isS "pay" s
  | _ => false
def lenT (nb : Nat) (z : PyData) : Bool := match z with
  | .tuple z => decide (z.length = nb)
  | _ => false
def outF (cs : List PyData) (nb : Nat) (x : PyData) : Bool := match x with
  | .tuple [.str _, .int i] => isNm cs.length x && (match cs[i.toNat]? with
    | some c => outC cs.length nb c
    | none => false)
  | _ => false
noncomputable def of1 : SemS := (sIf (tNotS (tOf (eMeth "Trust" "is_name" 2 f_Trust_is_name (eVar 0) (aCons (eVar 2) aNil)))) (sRet (eC (.bool false))) sNil)
noncomputable def of2 : SemS := (sSet 3 (eMeth "Trust" "content" 2 f_Trust_content (eVar 0) (aCons (eVar 2) aNil)))
noncomputable def of3 : SemS := (sIf (tOrS (tNotS (tOf (eUn (isiO (isiB CLS "tuple")) (eVar 3)))) (tOrS (tOf (eOp neO (eApp lenO (aCons (eVar 3) aNil)) (eC (.int 6)))) (tOrS (tNotS (tOf (eUn (isiO (isiB CLS "str")) (eOp ixO (eVar 3) (eC (.int 0)))))) (tOf (eOp neO (eOp ixO (eVar 3) (eC (.int 0))) (eC (.str "pay"))))))) (sRet (eC (.bool false))) sNil)
noncomputable def of4 : SemS := (sAsg (gT 5 (gsCons (gN 4) (gsCons (gN 5) (gsCons (gN 6) (gsCons (gN 7) (gsCons (gN 8) gsNil)))))) (eSl (eVar 3) (oS (eC (.int 1))) oN))
noncomputable def of5 : SemS := (sSet 9 (eApp lenO (aCons (eOp ixO (eVar 1) (eC (.int 0))) aNil)))
noncomputable def of6 : SemS := (sIf (tOrS (tNotS (tOf (eCall 2 f_is_number (aCons (eVar 4) (aCons (eC (.int 0)) aNil))))) (tOrS (tNotS (tOf (eCall 2 f_is_number (aCons (eVar 6) (aCons (eC (.int 0)) aNil))))) (tOrS (tOf (eOp geO (eVar 4) (eVar 9))) (tOf (eOp geO (eVar 6) (eVar 9)))))) (sRet (eC (.bool false))) sNil)
noncomputable def of7 : SemS := (sIf (tOrS (tNotS (tOf (eCall 2 f_is_number (aCons (eVar 5) (aCons (eC (.int 1)) aNil))))) (tOrS (tNotS (tOf (eCall 2 f_is_number (aCons (eVar 7) (aCons (eC (.int 1)) aNil))))) (tOrS (tNotS (tOf (eUn (isiO (isiB CLS "tuple")) (eVar 8)))) (tOf (eOp neO (eApp lenO (aCons (eVar 8) aNil)) (eVar 9)))))) (sRet (eC (.bool false))) sNil)
noncomputable def of8 : SemS := (sRet (eApp allO (aCons (eComp [10] (iSeq (eVar 8)) (gN 10) tYesS (eOr (eOp isO (eVar 10) (eC .none)) (eMeth "Trust" "is_name" 2 f_Trust_is_name (eVar 0) (aCons (eVar 10) aNil)))) aNil)))
theorem b_of_eq : b_outer_form = sSeq of1 (sSeq of2 (sSeq of3 (sSeq of4 (sSeq of5 (sSeq of6 (sSeq of7 of8)))))) := rfl
section
variable {h : AH} {t : Nat} {cs sl : List PyData} {ns : List Int} {m l : Int}
theorem ev_of8 (r : TrAt h t cs sl) (x1 x2 x3 x4 x5 x6 x7 x9 x10 : Option W) (cz : List PyData) : of8 [some (.ref t), x1, x2, x3, x4, x5, x6, x7, some (.d (.tuple cz)), x9, x10] h = .rt (.d (.bool (cz.all fun c => isNone c || isNm cs.length c))) h := by
  unfold of8
  rw [ev_sRet, all_comp (ds := cz) (fun c => isNone c || isNm cs.length c) (chk := fun _ => True) rfl trivial]
  · rfl
  · intro x _
    refine ⟨_, rfl, ?_⟩
    cases x <;> simp [wipR, r.fo, ev_is_name r, isNone]
theorem ge_ix {nb : Nat} (hnb : nb ≤ 1000000) (p : PyData) : (isNum p 0 = true ∧ ∃ i, p = .int i ∧ ((nb : Int) ≤ i ↔ isIx nb p = false)) ∨ (isNum p 0 = false ∧ isIx nb p = false) := by
  rw [isIx_num (by omega)]
  cases p with
  | int i =>
    by_cases e : isNum (.int i) 0 = true
    · exact .inl ⟨e, i, rfl, by simp [e]⟩
    · exact .inr ⟨by simpa using e, by simp [e]⟩
  | _ => exact .inr ⟨rfl, rfl⟩
theorem ev_of3 (x0 x1 x2 x4 x5 x6 x7 x8 x9 x10 : Option W) (c : PyData) : of3 [x0, x1, x2, some (.d c), x4, x5, x6, x7, x8, x9, x10] h = if pay6 c = true then .nx [x0, x1, x2, some (.d c), x4, x5, x6, x7, x8, x9, x10] h else .rt (.d (.bool false)) h := by
  unfold of3
  cases c with
  | tuple ds =>
    by_cases h6 : ds.length = 6
    · obtain ⟨s, p, k, to, a, cz, rfl⟩ : ∃ s p k to a cz, ds = [s, p, k, to, a, cz] := by
        match ds, h6 with
        | [s, p, k, to, a, cz], _ => exact ⟨s, p, k, to, a, cz, rfl⟩
      cases s with
      | str s =>
        by_cases es : (s == Str.ofString "pay") = true <;> simp [pay6, isS, es]
      | _ => simp [pay6, isS]
    · have : ¬ ((ds.length : Int) = 6) := by omega
      have e2 : pay6 (.tuple ds) = false := by
        unfold pay6
        split
        · rename_i q
          injection q with q
          rw [q] at h6
          simp at h6
        · rfl
      rw [e2]
      simp [this]
  | _ => simp [pay6]
theorem ev_of6 {nb : Nat} (hnb : nb ≤ 1000000) (x0 x1 x2 x3 x5 x7 x8 x10 : Option W) (p to : PyData) : of6 [x0, x1, x2, x3, some (.d p), x5, some (.d to), x7, x8, some (.d (.int nb)), x10] h = if (isIx nb p && isIx nb to) = true then .nx [x0, x1, x2, x3, some (.d p), x5, some (.d to), x7, x8, some (.d (.int nb)), x10] h else .rt (.d (.bool false)) h := by
  unfold of6
  rcases ge_ix hnb p with ⟨p1, ip, rfl, p2⟩ | ⟨p1, p2⟩
  · rcases ge_ix hnb to with ⟨t1, it, rfl, t2⟩ | ⟨t1, t2⟩
    · by_cases p3 : (nb : Int) ≤ ip
      · simp [p1, t1, p3, p2.mp p3]
      · have p4 : isIx nb (.int ip) = true := by
          cases q : isIx nb (.int ip) with
          | true => rfl
          | false => exact absurd (p2.mpr q) p3
        by_cases t3 : (nb : Int) ≤ it
        · simp [p1, t1, p3, t3, p4, t2.mp t3]
        · have t4 : isIx nb (.int it) = true := by
            cases q : isIx nb (.int it) with
            | true => rfl
            | false => exact absurd (t2.mpr q) t3
          simp [p1, t1, p3, t3, p4, t4]
    · simp [p1, t1, t2]
  · simp [p1, p2]
theorem ev_of7 (x0 x1 x2 x3 x4 x6 x10 : Option W) (k a cz : PyData) (nb : Nat) : of7 [x0, x1, x2, x3, x4, some (.d k), x6, some (.d a), some (.d cz), some (.d (.int nb)), x10] h = if (isNum k 1 && (isNum a 1 && lenT nb cz)) = true then .nx [x0, x1, x2, x3, x4, some (.d k), x6, some (.d a), some (.d cz), some (.d (.int nb)), x10] h else .rt (.d (.bool false)) h := by
  unfold of7
  by_cases k1 : isNum k 1 = true
  · by_cases a1 : isNum a 1 = true
    · cases cz with
      | tuple z =>
        by_cases lz : z.length = nb
        · simp [k1, a1, lz, lenT]
        · have : ¬ (z.length : Int) = (nb : Int) := by omega
          simp [k1, a1, lz, this, lenT]
      | _ => simp [k1, a1, lenT]
    · simp [k1, a1]
  · simp [k1]
end
end Q

set_option Elab.async false
set_option maxRecDepth 100000
set_option linter.all false
set_option autoImplicit false
set_option maxHeartbeats 1000000
/-! K19u: outer_form whole. -/
namespace Q
open PySem PySem.Spec PyProof.Rows L2 LamX
open Classical
section
variable {h : AH} {t : Nat} {cs sl : List PyData} {ns : List Int} {m l : Int}
theorem outF_nm {i : Nat} (hi : i < cs.length) (e : isNm cs.length (nm i) = true) (nb : Nat) : outF cs nb (nm i) = outC cs.length nb cs[i] := by
  have hc : cs[i]? = some cs[i] := List.getElem?_eq_getElem hi
  have e2 : outF cs nb (nm i) = (isNm cs.length (nm i) && (match cs[(i : Int).toNat]? with
        | some c => outC cs.length nb c
        | none => false)) := rfl
  rw [e2, e, Int.toNat_natCast, hc]
  rfl
theorem isNm_ex {n : Nat} {x : PyData} (e : isNm n x = true) : ∃ i : Nat, x = nm i ∧ i < n := by
  unfold isNm at e
  split at e
  · rename_i s j
    simp only [Bool.and_eq_true, beq_iff_eq, decide_eq_true_eq] at e
    obtain ⟨⟨rfl, h0, _⟩, h1⟩ := e
    exact ⟨j.toNat, by rw [nm, Int.toNat_of_nonneg h0], by omega⟩
  · cases e
theorem ev_of1 (r : TrAt h t cs sl) (x1 x3 x4 x5 x6 x7 x8 x9 x10 : Option W) (x : PyData) : of1 [some (.ref t), x1, some (.d x), x3, x4, x5, x6, x7, x8, x9, x10] h = if isNm cs.length x = true then .nx [some (.ref t), x1, some (.d x), x3, x4, x5, x6, x7, x8, x9, x10] h else .rt (.d (.bool false)) h := by
  unfold of1
  by_cases e : isNm cs.length x = true
  · simp [r.fo, ev_is_name r, e]
  · simp [r.fo, ev_is_name r, e]
theorem ev_of2 (r : TrAt h t cs sl) (x1 x3 x4 x5 x6 x7 x8 x9 x10 : Option W) (x c : PyData) (ec : f_Trust_content [.ref t, .d x] h = .ok (.d c) h) : of2 [some (.ref t), x1, some (.d x), x3, x4, x5, x6, x7, x8, x9, x10] h = .nx [some (.ref t), x1, some (.d x), some (.d c), x4, x5, x6, x7, x8, x9, x10] h := by
  unfold of2
  simp [r.fo, ec]
theorem ev_outer (r : TrAt h t cs sl) (b : BankOk ns m l) (hl : cs.length ≤ 1000000) (x : PyData) : f_outer_form [.ref t, .d (bankD ns m l), .d x] h = .ok (.d (.bool (outF cs ns.length x))) h := by
  have nb := b.len
  unfold f_outer_form
  rw [mkFn_end, b_of_eq]
  simp only [List.map, List.length, List.replicate, List.cons_append, List.nil_append, Nat.reduceSub, Nat.reduceAdd]
  by_cases e : isNm cs.length x = true
  · obtain ⟨i, rfl, hi⟩ := isNm_ex e
    have hc : cs[i]? = some cs[i] := List.getElem?_eq_getElem hi
    have ec := ev_content r hc (by omega)
    have eo := outF_nm hi e ns.length
    rw [eo]
    generalize cs[i] = c at ec
    simp only [ev_sSeq, ev_of1 r, e, if_true, ev_of2 r _ _ _ _ _ _ _ _ _ _ _ ec, ev_of3]
    by_cases q : pay6 c = true
    · rw [if_pos q]
      unfold pay6 at q
      split at q
      · rename_i s p k to a z
        have ct : cutO (.d (.tuple [s, p, k, to, a, z])) (some 1) none h = some (.d (.tuple [p, k, to, a, z])) := by
          simp [cutO, cutA_tail]
        have s4 : ∀ (x0 x1 x2 x4 x5 x6 x7 x8 x9 x10 : Option W), of4 [x0, x1, x2, some (.d (.tuple [s, p, k, to, a, z])), x4, x5, x6, x7, x8, x9, x10] h = .nx [x0, x1, x2, some (.d (.tuple [s, p, k, to, a, z])), some (.d p), some (.d k), some (.d to), some (.d a), some (.d z), x9, x10] h := by
          intros
          simp [of4, ct]
        have s5 : ∀ (x0 x2 x3 x4 x5 x6 x7 x8 x9 x10 : Option W), of5 [x0, some (.d (bankD ns m l)), x2, x3, x4, x5, x6, x7, x8, x9, x10] h = .nx [x0, some (.d (bankD ns m l)), x2, x3, x4, x5, x6, x7, x8, some (.d (.int ns.length)), x10] h := by
          intros
          simp [of5]
        simp only [s4, s5, ev_of6 (show ns.length ≤ 1000000 by omega)]
        by_cases q6 : (isIx ns.length p && isIx ns.length to) = true
        · rw [if_pos q6]
          simp only [ev_of7]
          by_cases q7 : (isNum k 1 && (isNum a 1 && lenT ns.length z)) = true
          · rw [if_pos q7]
            cases z with
            | tuple z =>
              simp only [ev_of8 r, fnEnd_rt]
              simp only [Bool.and_eq_true, lenT] at q6 q7
              simp only [outC, q, q6.1, q6.2, q7.1, q7.2.1, czOk, q7.2.2, Bool.true_and]
            | _ => simp [lenT] at q7
          · rw [if_neg q7]
            simp only [Bool.and_eq_true] at q6
            simp only [fnEnd_rt, outC, q, q6.1, q6.2, Bool.true_and]
            have : (isNum k 1 && (isNum a 1 && czOk cs.length ns.length z)) = false := by
              cases h1 : isNum k 1 with
              | false => rfl
              | true =>
                cases h2 : isNum a 1 with
                | false => rfl
                | true =>
                  cases z with
                  | tuple z =>
                    simp only [h1, h2, Bool.true_and, lenT, decide_eq_true_eq] at q7
                    simp [czOk, q7]
                  | _ => rfl
            rw [this]
        · rw [if_neg q6]
          simp only [fnEnd_rt, outC, q, Bool.true_and]
          have : (isIx ns.length p && (isIx ns.length to && (isNum k 1 && (isNum a 1 && czOk cs.length ns.length z)))) = false := by
            rw [← Bool.and_assoc]
            rw [show (isIx ns.length p && isIx ns.length to) = false by simpa using q6]
            rfl
          rw [this]
      · cases q
    · rw [if_neg q]
      have : outC cs.length ns.length c = false := by
        unfold outC
        split
        · rename_i s p k to a z
          have q' : isS "pay" s = false := by simpa [pay6] using q
          rw [q']
          rfl
        · rfl
      rw [this, fnEnd_rt]
  · have eo : outF cs ns.length x = false := by
      have e' : isNm cs.length x = false := by simpa using e
      unfold outF
      split
      · rw [e']
        rfl
      · rfl
    simp only [ev_sSeq, ev_of1 r, if_neg e, fnEnd_rt, eo]
end
end Q

set_option Elab.async false
set_option maxRecDepth 100000
set_option linter.all false
set_option autoImplicit false
set_option maxHeartbeats 1000000
/-! K19v: signed_by, can_pay. -/
namespace Q
open PySem PySem.Spec PyProof.Rows L2 LamX
open Classical
@[simp] theorem at2 {α : Type} (a b c : α) (l : List α) : atI (a :: b :: c :: l) 2 = some c := by
  simp only [atI, ixN]
  rw [if_pos (by simp), if_pos (by simp only [List.length_cons]; omega)]
  rfl
theorem ch_small {m : Int} {ps : List Int} {rows : List (List Int)} (k : ChOk m ps rows) : sz (chD m ps rows) ≤ 1000 ∧ okD (chD m ps rows) = true := by
  have c1 := k.cnt
  have c2 := k.pok.len
  have p1 := sz_row ps
  have r1 := sz_rows k rows fun _ h => h
  constructor
  · rw [chD, sz_tup, szs_cons, szs_cons, szs_cons, szs_nil, sz_int, sz_tup]
    omega
  · refine (Pl.tup (n := 2) fun x hx => ?_).ok (by omega)
    simp only [List.mem_cons, List.not_mem_nil, or_false] at hx
    rcases hx with rfl | rfl | rfl
    · exact pl_int 2 _
    · exact (pl_row _).mono (by omega)
    · refine Pl.tup fun x hx => ?_
      obtain ⟨r, _, rfl⟩ := List.mem_map.mp hx
      exact pl_row r
section
variable {h : AH} {t : Nat} {cs sl : List PyData} {ns : List Int} {m l : Int} {cm : Int} {ps : List Int} {rows : List (List Int)}
theorem ev_need_trust (r : TrAt h t cs sl) : f_need_trust [.ref t] h = .ok (.d .none) h := by
  have : isiO (isiC CLS "Trust") (.ref t) h = some (.d (.bool true)) := by simp [isiO, isiC, typW, r.fo, bO, basics, CLS, ClsT.sub]
  simp [f_need_trust, b_need_trust, this]
theorem ev_need_noTrust (x : PyData) (h : AH) : f_need_trust [.d x] h = .err "BadTrust" [] h := by
  have : isiO (isiC CLS "Trust") (.d x) h = some (.d (.bool false)) := by
    cases x <;> simp [isiO, isiC, typW, typD, bO, basics]
  simp [f_need_trust, b_need_trust, this]
def who (n : Nat) (pu o : Int) : PyData := .tuple [.str "owner", .int (pu + o * n)]
theorem isWho_who {n : Nat} {pu o : Int} (hn : n ≤ 8) (h1 : 0 ≤ pu ∧ pu < n) (h2 : 0 ≤ o ∧ o < 6) : isWho (who n pu o) = true := by
  have a : 0 ≤ o * (n : Int) := Int.mul_nonneg h2.1 (by omega)
  have b : o * (n : Int) ≤ 6 * 8 := Int.mul_le_mul (by omega) (by omega) (by omega) (by omega)
  have c : isNum (.int (pu + o * n)) 0 = true := by simp only [isNum, Bool.and_eq_true, decide_eq_true_eq]; omega
  show ((Str.ofString "owner" == Str.ofString "owner" || Str.ofString "owner" == Str.ofString "member") && isNum (.int (pu + o * n)) 0) = true
  rw [c]
  simp
theorem ev_owner_ok (b : BankOk ns m l) {pu o : Int} (h1 : 0 ≤ pu ∧ pu < ns.length) (h2 : 0 ≤ o ∧ o < 6) (h : AH) : f_owner_of [.d (bankD ns m l), .d (.int pu), .d (.int o)] h = .ok (.d (who ns.length pu o)) h := by
  rw [ev_owner_of b]
  have q1 : isIx ns.length (.int pu) = true := by simp [isIx]; omega
  have q2 : isIx 6 (.int o) = true := by simp [isIx]; omega
  rw [if_pos q1]
  simp only [q2, if_true]
  rfl
/-- the owners below M that have sealed -/
noncomputable def signers (M n : Nat) (pu : Int) (i : Nat) (sl : List PyData) : List Int := (intsTo M).filter fun o => decide (PyData.tuple [who n pu o, nm i] ∈ sl)
theorem ev_signed (r : TrAt h t cs sl) (b : BankOk ns m l) {M : Nat} (k : ChOk (M : Int) ps rows) {i : Nat} {pu : Int} {k1 to a z : PyData} (hi : cs[i]? = some (.tuple [.str "pay", .int pu, k1, to, a, z])) (ho : outC cs.length ns.length (.tuple [.str "pay", .int pu, k1, to, a, z]) = true) (hl : cs.length ≤ 1000000) : f_signed_by [.ref t, .d (bankD ns m l), .d (chD M ps rows), .d (nm i)] h = .ok (.d (rowT (signers M ns.length pu i sl))) h := by
  have lt : i < cs.length := (List.getElem?_eq_some_iff.mp hi).1
  have en : isNm cs.length (nm i) = true := isNm_nm lt (by omega)
  have eo := ev_outer r b hl (nm i)
  have e2 : outF cs ns.length (nm i) = true := by
    rw [outF_nm lt en, (List.getElem?_eq_some_iff.mp hi).2]
    exact ho
  rw [e2] at eo
  have ec := ev_content r hi (by omega)
  have pu1 : 0 ≤ pu ∧ pu < ns.length := by
    simp only [outC, Bool.and_eq_true] at ho
    have := ho.2.1
    simpa [isIx] using this
  have m5 := k.lim
  have nb := b.len
  have cm := ev_need_charter (ch_small k).1 (ch_small k).2 h
  rw [if_pos (charter_ok k)] at cm
  have fil := compL_fil (chk := fun _ => True) (g := gN 6) (mt := tOf (eMeth "Trust" "sealed" 3 f_Trust_sealed (eVar 0) (aCons (eCall 3 f_owner_of (aCons (eVar 1) (aCons (eVar 4) (aCons (eVar 6) aNil)))) (aCons (eVar 3) aNil)))) (me := eVar 6) (ρ := [some (.ref t), some (.d (bankD ns m l)), some (.d (chD M ps rows)), some (.d (nm i)), some (.d (.int pu)), none, none]) (h := h) (ds := (intsTo M).map .int) (fun x => match x with
    | .int o => decide (PyData.tuple [who ns.length pu o, nm i] ∈ sl)
    | _ => false) (fun x => x) trivial (by
      intro x hx
      obtain ⟨o, ho, rfl⟩ := List.mem_map.mp hx
      have o1 := intsTo_mem.mp ho
      have ow := ev_owner_ok b pu1 (o := o) (by omega) h
      have se := ev_sealed r (isWho_who nb.2 pu1 (o := o) (by omega)) en
      exact ⟨_, rfl, by simp [ow, r.fo, se], fun _ => rfl⟩)
  have e3 : ((((intsTo M).map PyData.int).filter fun x => match x with
    | .int o => decide (PyData.tuple [who ns.length pu o, nm i] ∈ sl)
    | _ => false).map fun x => x) = (signers M ns.length pu i sl).map .int := by
    rw [List.map_id', List.filter_map]
    rfl
  rw [e3] at fil
  have cO := compO_of (own := [6]) (mi := iRange1 (eOp ixO (eVar 2) (eC (.int 0)))) (ρ := [some (.ref t), some (.d (bankD ns m l)), some (.d (chD M ps rows)), some (.d (nm i)), some (.d (.int pu)), none, none]) (h := h) (h1 := h) (ws := ((intsTo M).map .int).map .d) (chk := fun _ => True) (by
    rw [ev_range1]
    simp only [ev_op, ev_var, ev_c, List.getElem?_cons_zero, List.getElem?_cons_succ, out_ok, chD, ixT_ev, at0, Option.map_some, ofOpt_some]
    rw [if_pos (by omega), Int.toNat_natCast, rngW_ints]) fil
  have sl6 : (sSetLc 5 [6] (iRange1 (eOp ixO (eVar 2) (eC (.int 0)))) (gN 6) (tOf (eMeth "Trust" "sealed" 3 f_Trust_sealed (eVar 0) (aCons (eCall 3 f_owner_of (aCons (eVar 1) (aCons (eVar 4) (aCons (eVar 6) aNil)))) (aCons (eVar 3) aNil)))) (eVar 6)) [some (.ref t), some (.d (bankD ns m l)), some (.d (chD M ps rows)), some (.d (nm i)), some (.d (.int pu)), none, none] h = .nx [some (.ref t), some (.d (bankD ns m l)), some (.d (chD M ps rows)), some (.d (nm i)), some (.d (.int pu)), some (.d (.list ((signers M ns.length pu i sl).map .int))), none] h := by
    simp only [sSetLc, cO, st_ok, ev_allD_map]
    rfl
  unfold f_signed_by b_signed_by
  simp [ev_need_trust r, ev_need_bank b, cm, eo, r.fo, ec, -ev_app]
  rw [sl6]
  simp [tupleO, rowT]
theorem ev_can_pay (k : ChOk cm ps rows) (D : List Int) (h : AH) : f_can_pay [.d (chD cm ps rows), .d (rowT D)] h = .ok (.d (.bool ((rows.any fun r => r.all fun x => decide (x ∈ D)) && ps.any fun x => decide (x ∈ D)))) h := by
  have e1 : f_has_lot [.d (chD cm ps rows), .d (rowT D)] h = .ok (.d (.bool (rows.any fun r => r.all fun x => decide (x ∈ D)))) h := by
    unfold f_has_lot b_has_lot
    rw [mkFn_end]
    simp only [List.map, List.length, List.replicate, List.cons_append, List.nil_append, Nat.reduceSub, Nat.reduceAdd]
    rw [ev_sRet, any_comp (ds := rows.map rowT) (fun r => within r (rowT D)) (chk := fun _ => True) (by simp [chD, -List.map_map]) trivial]
    · rw [st_ok, fnEnd_rt, List.any_map]
      congr 4
      funext r
      exact within_row r D
    · intro x hx
      obtain ⟨r, _, rfl⟩ := List.mem_map.mp hx
      exact ⟨_, rfl, by simp [wipR, show f_all_within [.d (rowT r), .d (rowT D)] h = _ from ev_within r D h]; rfl⟩
  have e2 : (eApp anyO (aCons (eComp [2] (iSeq (eOp ixO (eVar 0) (eC (.int 1)))) (gN 2) tYesS (eOp inO (eVar 2) (eVar 1))) aNil)) [some (.d (chD cm ps rows)), some (.d (rowT D)), none] h = .ok (.d (.bool (ps.any fun x => decide (x ∈ D)))) h := by
    rw [any_comp (ds := ps.map .int) (fun x => match x with
      | .int i => decide (i ∈ D)
      | _ => false) (chk := fun _ => True) (by simp [chD, rowT, -List.map_map]) trivial]
    · rw [List.any_map]
      rfl
    · intro x hx
      obtain ⟨i, _, rfl⟩ := List.mem_map.mp hx
      refine ⟨_, rfl, ?_⟩
      have : inO (.d (.int i)) (.d (rowT D)) h = some (.d (.bool (decide (i ∈ D)))) := by
        rw [show inO (.d (.int i)) (.d (rowT D)) h = _ from in_row i D h, any_eqv]
      simp [wipR, this]
  unfold f_can_pay b_can_pay
  rw [mkFn_end]
  simp only [List.map, List.length, List.replicate, List.cons_append, List.nil_append, Nat.reduceSub, Nat.reduceAdd]
  cases q : (rows.any fun r => r.all fun x => decide (x ∈ D)) with
  | false => simp [e1, q, -ev_app]
  | true => simp [e1, q, e2, -ev_app]
end
end Q

set_option Elab.async false
set_option maxRecDepth 100000
set_option linter.all false
set_option autoImplicit false
set_option maxHeartbeats 1000000
/-! K19x: a lap of _law_payment_right. -/
namespace Q
open PySem PySem.Spec PyProof.Rows L2 LamX
open Classical
noncomputable def pr1 : SemS := (sAsg (gT 3 (gsCons (gN 6) (gsCons (gN 7) (gsCons (gN 8) gsNil)))) (eVar 3))
noncomputable def pr2 : SemS := (sSet 9 (eLstH aNil))
noncomputable def pr3_1 : SemS := (sSet 11 (eApp tupleO (aCons (eApp sortedO (aCons (eComp [14] (iSeq (eVar 9)) (gN 14) (tOf (eOp ltO (eVar 14) (eVar 6))) (eVar 14)) aNil)) aNil)))
noncomputable def pr3_2 : SemS := (sIf (tOrS (tOf (eOp neO (eCall 4 f_signed_by (aCons (eVar 1) (aCons (eVar 2) (aCons (eVar 3) (aCons (eVar 4) aNil))))) (eVar 11))) (tOf (eOp neO (eCallK 4 4 [3, 2, 1, 0] f_signed_by (aCons (eVar 4) (aCons (eVar 3) (aCons (eVar 2) (aCons (eVar 1) aNil))))) (eVar 11)))) (sRet (eC (.bool false))) sNil)
noncomputable def pr3_3 : SemS := (sSet 12 (eAnd (eOp neO (eComp [14] (iSeq (eVar 11)) (gN 14) (tOf (eOp inO (eVar 14) (eVar 7))) (eVar 14)) (eLstD aNil)) (eOp neO (eComp [15] (iSeq (eVar 8)) (gN 15) (tOf (eOp eqO (eComp [14] (iSeq (eVar 15)) (gN 14) (tOf (eOp notInO (eVar 14) (eVar 11))) (eVar 14)) (eLstD aNil))) (eVar 15)) (eLstD aNil))))
noncomputable def pr3_4 : SemS := (sIf (tNotS (tOf (eCall 2 f__law_is_bool (aCons (eCall 4 f_is_signed (aCons (eVar 1) (aCons (eVar 2) (aCons (eVar 3) (aCons (eVar 4) aNil))))) (aCons (eVar 12) aNil))))) (sRet (eC (.bool false))) sNil)
noncomputable def pr3_5 : SemS := (sPar 13 14 (aCons (eCall 2 f__law_draw (aCons (eVar 0) (aCons (eApp lenO (aCons (eOp ixO (eVar 2) (eC (.int 0))) aNil)) aNil))) (aCons (eCall 2 f__law_draw (aCons (eVar 0) (aCons (eC (.int 6)) aNil))) aNil)))
noncomputable def pr3_6 : SemS := (sExpr (eMeth "Trust" "seal" 3 f_Trust_seal (eVar 1) (aCons (eCall 3 f_owner_of (aCons (eVar 2) (aCons (eVar 13) (aCons (eVar 14) aNil)))) (aCons (eVar 4) aNil))))
noncomputable def pr3_7 : SemS := (sIf (tOf (eOp neO (eCall 3 f_owner_of (aCons (eVar 2) (aCons (eVar 13) (aCons (eVar 14) aNil)))) (eTup (aCons (eC (.str "owner")) (aCons (eOp addO (eVar 13) (eOp mulO (eVar 14) (eApp lenO (aCons (eOp ixO (eVar 2) (eC (.int 0))) aNil)))) aNil))))) (sRet (eC (.bool false))) sNil)
noncomputable def pr3_8 : SemS := (sIf (tAndS (tOf (eOp eqO (eVar 13) (eVar 5))) (tOf (eOp notInO (eVar 14) (eVar 9)))) (sExpr (eMt appendM (eVar 9) (aCons (eVar 14) aNil))) sNil)
noncomputable def pr3 : SemS := (sFor (iRange1 (eC (.int 8))) (gN 10) (sSeq pr3_1 (sSeq pr3_2 (sSeq pr3_3 (sSeq pr3_4 (sSeq pr3_5 (sSeq pr3_6 (sSeq pr3_7 pr3_8))))))))
noncomputable def pr4 : SemS := (sRet (eC (.bool true)))
theorem b_pr_eq : b__law_payment_right = (sSeq pr1 (sSeq pr2 (sSeq pr3 pr4))) := rfl
theorem ints_uniq : ∀ {a b : List Int}, a.Pairwise (· < ·) → b.Pairwise (· < ·) → (∀ x, x ∈ a ↔ x ∈ b) → a = b
  | [], [], _, _, _ => rfl
  | [], y :: b, _, _, h => by have := (h y).mpr (List.mem_cons_self ..); cases this
  | x :: a, [], _, _, h => by have := (h x).mp (List.mem_cons_self ..); cases this
  | x :: a, y :: b, ha, hb, h => by
    obtain ⟨ha1, ha2⟩ := List.pairwise_cons.mp ha
    obtain ⟨hb1, hb2⟩ := List.pairwise_cons.mp hb
    have e : x = y := by
      rcases List.mem_cons.mp ((h x).mp (List.mem_cons_self ..)) with e | hx
      · exact e
      · rcases List.mem_cons.mp ((h y).mpr (List.mem_cons_self ..)) with e | hy
        · exact e.symm
        · have := hb1 x hx
          have := ha1 y hy
          omega
    subst e
    rw [ints_uniq ha2 hb2 fun z => ?_]
    have := h z
    simp only [List.mem_cons] at this
    constructor
    · intro hz
      rcases this.mp (.inr hz) with rfl | q
      · exact absurd (ha1 z hz) (by omega)
      · exact q
    · intro hz
      rcases this.mpr (.inr hz) with rfl | q
      · exact absurd (hb1 z hz) (by omega)
      · exact q
theorem intsTo_lt (M : Nat) : (intsTo M).Pairwise (· < ·) := by
  unfold intsTo
  rw [List.pairwise_map]
  exact List.pairwise_lt_range.imp fun h => by omega
section
variable {h : AH} {p q t s : Nat} {cs sl : List PyData} {ns : List Int} {m l : Int} {M : Nat} {ps : List Int} {rows : List (List Int)} {i : Nat} {pu : Int} {S : List Int} {k : Nat}
theorem ev_is_boolE (x y : Bool) (h : AH) : f__law_is_bool [.d (.bool x), .d (.bool y)] h = .ok (.d (.bool (x == y))) h := by
  cases x <;> cases y <;> simp [f__law_is_bool, b__law_is_bool, isO, bO]
/-- what the loop keeps -/
structure PrS (h : AH) (p q t s : Nat) (cs sl : List PyData) (n : Nat) (pu : Int) (i : Nat) (S : List Int) (k : Nat) : Prop where
  tr : TrAt h t cs sl
  tp : TpAt h p q k
  fs : h.f s = some (.lst ((S.map PyData.int).map .d))
  ls : s < h.n
  ap : s ≠ p ∧ s ≠ q ∧ (s < t ∨ t + 3 < s) ∧ (p < t ∨ t + 3 < p) ∧ (q < t ∨ t + 3 < q)
  nd : S.Nodup
  rg : ∀ o ∈ S, 0 ≤ o ∧ o < 6
  is : ∀ o, 0 ≤ o → o < 6 → (PyData.tuple [who n pu o, nm i] ∈ sl ↔ o ∈ S)
theorem ev_pr1 (P : PrS h p q t s cs sl ns.length pu i S k) (M6 : M ≤ 5) (x0 x1 x2 x3 x4 x5 x7 x8 x10 x11 x12 x13 x14 x15 : Option W) : pr3_1 [x0, x1, x2, x3, x4, x5, some (.d (.int M)), x7, x8, some (.ref s), x10, x11, x12, x13, x14, x15] h = .nx [x0, x1, x2, x3, x4, x5, some (.d (.int M)), x7, x8, some (.ref s), x10, some (.d (rowT (signers M ns.length pu i sl))), x12, x13, x14, x15] h := by
  have fil := comp_fil (own := [14]) (mi := iSeq (eVar 9)) (g := gN 14) (mt := tOf (eOp ltO (eVar 14) (eVar 6))) (me := eVar 14) (ρ := [x0, x1, x2, x3, x4, x5, some (.d (.int M)), x7, x8, some (.ref s), x10, x11, x12, x13, x14, x15]) (h := h) (ds := S.map .int) (chk := fun h => h.f s = some (.lst ((S.map PyData.int).map .d))) (fun x => match x with
    | .int o => decide (o < (M : Int))
    | _ => false) (fun x => x) (by simp [P.fs, -List.map_map]) P.fs (by
      intro x hx
      obtain ⟨o, _, rfl⟩ := List.mem_map.mp hx
      exact ⟨_, rfl, by simp [wipR], fun _ => rfl⟩)
  have e3 : (((S.map PyData.int).filter fun x => match x with
    | .int o => decide (o < (M : Int))
    | _ => false).map fun x => x) = (S.filter fun o => decide (o < (M : Int))).map .int := by
    rw [List.map_id', List.filter_map]
    rfl
  rw [e3] at fil
  have len : (S.filter fun o => decide (o < (M : Int))).length ≤ 1000000 := by
    have nd2 : (S.filter fun o => decide (o < (M : Int))).Nodup := P.nd.sublist List.filter_sublist
    have := List.Nodup.length_le_of_subset nd2 (l₂ := intsTo 6) (fun o ho => intsTo_mem.mpr (by
      have := P.rg o (List.mem_filter.mp ho).1
      omega))
    simp [intsTo] at this
    omega
  obtain ⟨ms, c1, c2, c3⟩ := sorted_ints (ns := S.filter fun o => decide (o < (M : Int))) (x := .d (.list ((S.filter fun o => decide (o < (M : Int))).map .int))) (h := h) len rfl
  have nd : ms.Nodup := c2.nodup_iff.mpr (P.nd.sublist List.filter_sublist)
  have e : ms = signers M ns.length pu i sl := by
    refine ints_uniq (strict_of c3 nd fun a b h1 h2 => by omega) ((intsTo_lt M).sublist List.filter_sublist) fun o => ?_
    rw [c2.mem_iff, List.mem_filter, signers, List.mem_filter, intsTo_mem]
    simp only [decide_eq_true_eq]
    constructor
    · intro ⟨h1, h2⟩
      have := P.rg o h1
      exact ⟨⟨this.1, h2⟩, (P.is o this.1 this.2).mpr h1⟩
    · intro ⟨⟨h1, h2⟩, h3⟩
      exact ⟨(P.is o h1 (by omega)).mp h3, h2⟩
  subst e
  unfold pr3_1
  rw [ev_sSet, ev_app, ev_cons, ev_app, ev_cons, fil]
  simp [c1, tupleO, rowT]
end
end Q

set_option Elab.async false
set_option maxRecDepth 100000
set_option linter.all false
set_option autoImplicit false
set_option maxHeartbeats 1000000
/-! K19y: the rest of a lap of _law_payment_right. -/
namespace Q
open PySem PySem.Spec PyProof.Rows L2 LamX
open Classical
theorem eqB_nil (ds : List PyData) (h : AH) : eqB (.d (.list ds)) (.d (.list [])) h = some ds.isEmpty := by
  unfold eqB
  simp only [toD_d]
  cases ds with
  | nil => rfl
  | cons d ds =>
    split
    · simp [PyData.eqv, PyData.eqvAll]
    · simp [eqLen, lenL]
theorem neL (ds : List PyData) (h : AH) : neO (.d (.list ds)) (.d (.list [])) h = some (.d (.bool (!ds.isEmpty))) := by simp [neO, eqB_nil, bO]
theorem eqL (ds : List PyData) (h : AH) : eqO (.d (.list ds)) (.d (.list [])) h = some (.d (.bool ds.isEmpty)) := by simp [eqO, eqB_nil, bO]
theorem fil_empty {α β : Type} (f : α → β) (p : α → Bool) (l : List α) : ((l.filter p).map f).isEmpty = !l.any p := by
  induction l with
  | nil => rfl
  | cons x l ih =>
    cases q : p x with
    | true => simp [q]
    | false => simpa [q] using ih
section
variable {h : AH} {p q t s : Nat} {cs sl : List PyData} {ns : List Int} {m l : Int} {M : Nat} {ps : List Int} {rows : List (List Int)} {i : Nat} {pu : Int} {S : List Int} {k : Nat}
theorem ev_pr2 {D : List Int} {bk ch nn : PyData} (sg : f_signed_by [.ref t, .d bk, .d ch, .d nn] h = .ok (.d (rowT D)) h) (x0 x5 x6 x7 x8 x9 x10 x12 x13 x14 x15 : Option W) : pr3_2 [x0, some (.ref t), some (.d bk), some (.d ch), some (.d nn), x5, x6, x7, x8, x9, x10, some (.d (rowT D)), x12, x13, x14, x15] h = .nx [x0, some (.ref t), some (.d bk), some (.d ch), some (.d nn), x5, x6, x7, x8, x9, x10, some (.d (rowT D)), x12, x13, x14, x15] h := by
  have ne : neO (.d (rowT D)) (.d (rowT D)) h = some (.d (.bool false)) := by
    rw [neD_ev _ _ _ (show okD (rowT D) = true from row_okD D) (show okD (rowT D) = true from row_okD D), eqv_row]
    simp
  simp [pr3_2, sg, ne, permA]
def sgd (rows : List (List Int)) (ps D : List Int) : Bool := (rows.any fun r => r.all fun x => decide (x ∈ D)) && ps.any fun x => decide (x ∈ D)
theorem ev_pr3 (D : List Int) (x0 x1 x2 x3 x4 x5 x6 x9 x10 x12 x13 x14 x15 : Option W) : pr3_3 [x0, x1, x2, x3, x4, x5, x6, some (.d (rowT ps)), some (.d (.tuple (rows.map rowT))), x9, x10, some (.d (rowT D)), x12, x13, x14, x15] h = .nx [x0, x1, x2, x3, x4, x5, x6, some (.d (rowT ps)), some (.d (.tuple (rows.map rowT))), x9, x10, some (.d (rowT D)), some (.d (.bool (sgd rows ps D))), x13, x14, x15] h := by
  have f1 := comp_fil (own := [14]) (mi := iSeq (eVar 11)) (g := gN 14) (mt := tOf (eOp inO (eVar 14) (eVar 7))) (me := eVar 14) (ρ := [x0, x1, x2, x3, x4, x5, x6, some (.d (rowT ps)), some (.d (.tuple (rows.map rowT))), x9, x10, some (.d (rowT D)), x12, x13, x14, x15]) (h := h) (ds := D.map .int) (chk := fun _ => True) (fun x => match x with
    | .int o => decide (o ∈ ps)
    | _ => false) (fun x => x) (by simp [rowT, -List.map_map]) trivial (by
      intro x hx
      obtain ⟨o, _, rfl⟩ := List.mem_map.mp hx
      have : inO (.d (.int o)) (.d (rowT ps)) h = some (.d (.bool (decide (o ∈ ps)))) := by
        rw [show inO (.d (.int o)) (.d (rowT ps)) h = _ from in_row o ps h, any_eqv]
      exact ⟨_, rfl, by simp [wipR, this], fun _ => rfl⟩)
  have f2 := comp_fil (own := [15]) (mi := iSeq (eVar 8)) (g := gN 15) (mt := tOf (eOp eqO (eComp [14] (iSeq (eVar 15)) (gN 14) (tOf (eOp notInO (eVar 14) (eVar 11))) (eVar 14)) (eLstD aNil))) (me := eVar 15) (ρ := [x0, x1, x2, x3, x4, x5, x6, some (.d (rowT ps)), some (.d (.tuple (rows.map rowT))), x9, x10, some (.d (rowT D)), x12, x13, x14, x15]) (h := h) (ds := rows.map rowT) (chk := fun _ => True) (fun x => within x (rowT D)) (fun x => x) (by simp [-List.map_map]) trivial (by
      intro x hx
      obtain ⟨r, _, rfl⟩ := List.mem_map.mp hx
      have f3 := comp_fil (own := [14]) (mi := iSeq (eVar 15)) (g := gN 14) (mt := tOf (eOp notInO (eVar 14) (eVar 11))) (me := eVar 14) (ρ := [x0, x1, x2, x3, x4, x5, x6, some (.d (rowT ps)), some (.d (.tuple (rows.map rowT))), x9, x10, some (.d (rowT D)), x12, x13, x14, some (.d (rowT r))]) (h := h) (ds := r.map .int) (chk := fun _ => True) (fun x => match x with
        | .int o => !decide (o ∈ D)
        | _ => false) (fun x => x) (by simp [rowT, -List.map_map]) trivial (by
          intro x hx
          obtain ⟨o, _, rfl⟩ := List.mem_map.mp hx
          have : notInO (.d (.int o)) (.d (rowT D)) h = some (.d (.bool (!decide (o ∈ D)))) := by
            rw [show notInO (.d (.int o)) (.d (rowT D)) h = _ from notin_row o D h, any_eqv]
          exact ⟨_, rfl, by simp [wipR, this], fun _ => rfl⟩)
      have e : ((((r.map PyData.int).filter fun x => match x with
        | .int o => !decide (o ∈ D)
        | _ => false).map fun x => x)).isEmpty = within (rowT r) (rowT D) := by
        rw [fil_empty, within_row, List.any_map]
        show (!r.any fun o => !decide (o ∈ D)) = r.all fun o => decide (o ∈ D)
        rw [List.not_any_eq_all_not]
        simp
      refine ⟨_, rfl, ?_, fun _ => rfl⟩
      simp only [wipR, List.set, ev_tOf, ev_op, f3, out_ok, ev_lstD, ev_nil, allD_nil, Option.bind_some, List.length_nil, Nat.zero_le, if_true, ofOpt_some, eqL, e])
  have e1 : ((((D.map PyData.int).filter fun x => match x with
    | .int o => decide (o ∈ ps)
    | _ => false).map fun x => x)).isEmpty = !(ps.any fun x => decide (x ∈ D)) := by
    rw [fil_empty, List.any_map]
    congr 1
    rw [Bool.eq_iff_iff]
    simp only [List.any_eq_true, Function.comp_apply, decide_eq_true_eq]
    constructor
    · rintro ⟨x, a, b⟩
      exact ⟨x, b, a⟩
    · rintro ⟨x, a, b⟩
      exact ⟨x, b, a⟩
  have e2 : ((((rows.map rowT).filter fun x => within x (rowT D)).map fun x => x)).isEmpty = !(rows.any fun r => r.all fun x => decide (x ∈ D)) := by
    rw [fil_empty, List.any_map]
    congr 2
    funext r
    exact within_row r D
  unfold pr3_3
  cases c1 : (ps.any fun x => decide (x ∈ D)) with
  | false =>
    rw [c1] at e1
    simp only [ev_sSet, ev_and, ev_op, f1, out_ok, ev_lstD, ev_nil, allD_nil, Option.bind_some, List.length_nil, Nat.zero_le, if_true, ofOpt_some, neL, e1, Bool.not_false, Bool.not_true, st_ok, List.set, sgd, c1, Bool.and_false]
  | true =>
    rw [c1] at e1
    simp only [ev_sSet, ev_and, ev_op, f1, f2, out_ok, ev_lstD, ev_nil, allD_nil, Option.bind_some, List.length_nil, Nat.zero_le, if_true, ofOpt_some, neL, e1, e2, Bool.not_false, Bool.not_true, Bool.not_not, st_ok, List.set, sgd, c1, Bool.and_true]
theorem ev_pr4 {cm : Int} (kc : ChOk cm ps rows) {D : List Int} {bk nn : PyData} (sg : f_signed_by [.ref t, .d bk, .d (chD cm ps rows), .d nn] h = .ok (.d (rowT D)) h) (x0 x5 x6 x7 x8 x9 x10 x11 x13 x14 x15 : Option W) : pr3_4 [x0, some (.ref t), some (.d bk), some (.d (chD cm ps rows)), some (.d nn), x5, x6, x7, x8, x9, x10, x11, some (.d (.bool (sgd rows ps D))), x13, x14, x15] h = .nx [x0, some (.ref t), some (.d bk), some (.d (chD cm ps rows)), some (.d nn), x5, x6, x7, x8, x9, x10, x11, some (.d (.bool (sgd rows ps D))), x13, x14, x15] h := by
  have is : f_is_signed [.ref t, .d bk, .d (chD cm ps rows), .d nn] h = .ok (.d (.bool (sgd rows ps D))) h := by
    simp [f_is_signed, b_is_signed, sg, ev_can_pay kc, sgd]
  simp [pr3_4, is, ev_is_boolE]
end
end Q

set_option Elab.async false
set_option maxRecDepth 100000
set_option linter.all false
set_option autoImplicit false
set_option maxHeartbeats 1000000
/-! K19z: _law_payment_right whole. -/
namespace Q
open PySem PySem.Spec PyProof.Rows L2 LamX
open Classical
theorem who_inj {n : Nat} {a b o o' : Int} (hn : 0 < n) (ha : 0 ≤ a ∧ a < n) (hb : 0 ≤ b ∧ b < n) : who n a o = who n b o' ↔ a = b ∧ o = o' := by
  constructor
  · intro e
    have e : a + o * (n : Int) = b + o' * (n : Int) := by
      unfold who at e
      injection e with e
      simpa using e
    have h1 : (a + o * (n : Int)) % n = a := by
      rw [Int.add_mul_emod_self_right, Int.emod_eq_of_lt ha.1 ha.2]
    have h2 : (b + o' * (n : Int)) % n = b := by
      rw [Int.add_mul_emod_self_right, Int.emod_eq_of_lt hb.1 hb.2]
    have ab : a = b := by rw [← h1, ← h2, e]
    subst ab
    have : o * (n : Int) = o' * (n : Int) := by omega
    exact ⟨rfl, Int.eq_of_mul_eq_mul_right (by omega) this⟩
  · rintro ⟨rfl, rfl⟩
    rfl
theorem notin_list {h : AH} {s : Nat} {S : List Int} (hs : h.f s = some (.lst ((S.map PyData.int).map .d))) (o : Int) : notInO (.d (.int o)) (.ref s) h = some (.d (.bool (!decide (o ∈ S)))) := by
  have td : toD h (.ref s) = some (.list (S.map .int)) := by simp only [toD, hs, ev_allD_map, Option.map_some]
  simp only [notInO, inB, td, toD_d]
  rw [if_pos (by simp [PyData.plain, PyData.depth, plainAll_ints])]
  simp only [Option.map_some, any_eqv, bO]
section
variable {h : AH} {p q t s : Nat} {cs sl : List PyData} {ns : List Int} {m l : Int} {M : Nat} {ps : List Int} {rows : List (List Int)} {i : Nat} {pu : Int} {S : List Int} {k : Nat}
/-- the slots that stay -/
def prE (p t : Nat) (bk ch : PyData) (i : Nat) (pu : Int) (M : Nat) (ps : List Int) (rows : List (List Int)) (s : Nat) (x10 x11 x12 x13 x14 : Option W) : Env' := [some (.ref p), some (.ref t), some (.d bk), some (.d ch), some (.d (nm i)), some (.d (.int pu)), some (.d (.int M)), some (.d (rowT ps)), some (.d (.tuple (rows.map rowT))), some (.ref s), x10, x11, x12, x13, x14, none]
theorem ev_lap (P : PrS h p q t s cs sl ns.length pu i S k) (hk : k ≤ 700000000) (b : BankOk ns m l) (kc : ChOk (M : Int) ps rows) {k1 to a z : PyData} (hi : cs[i]? = some (.tuple [.str "pay", .int pu, k1, to, a, z])) (ho : outC cs.length ns.length (.tuple [.str "pay", .int pu, k1, to, a, z]) = true) (hl : cs.length ≤ 1000000) (hsl : sl.length < 1000000) (x10 x11 x12 x13 x14 : Option W) : ∃ (y11 y12 y13 y14 : Option W) (h' : AH) (sl' : List PyData) (S' : List Int), (sSeq pr3_1 (sSeq pr3_2 (sSeq pr3_3 (sSeq pr3_4 (sSeq pr3_5 (sSeq pr3_6 (sSeq pr3_7 pr3_8))))))) (prE p t (bankD ns m l) (chD M ps rows) i pu M ps rows s x10 x11 x12 x13 x14) h = .nx (prE p t (bankD ns m l) (chD M ps rows) i pu M ps rows s x10 y11 y12 y13 y14) h' ∧ PrS h' p q t s cs sl' ns.length pu i S' (k + 2) ∧ sl'.length ≤ sl.length + 1 ∧ Same [p, q, t + 3, s] h h' := by
  have nb := b.len
  have sg := ev_signed P.tr b kc hi ho hl
  have lt : i < cs.length := (List.getElem?_eq_some_iff.mp hi).1
  have en : isNm cs.length (nm i) = true := isNm_nm lt (by omega)
  have pu1 : 0 ≤ pu ∧ pu < ns.length := by
    simp only [outC, Bool.and_eq_true] at ho
    have := ho.2.1
    simpa [isIx] using this
  have m5 := kc.lim
  obtain ⟨pl, h1, a1, pl0, pl1, tp1, s1⟩ := ev_draw P.tp (by omega) (size := (ns.length : Int)) (by omega) (by omega)
  obtain ⟨ow, h2, a2, ow0, ow1, tp2, s2⟩ := ev_draw tp1 (by omega) (size := 6) (by omega) (by decide)
  have s12 := s1.trans s2
  have ap := P.ap
  have tr2 := P.tr.same s12 (by simp; omega)
  have fs2 : h2.f s = some (.lst ((S.map PyData.int).map .d)) := by rw [s12.2 s P.ls (by simp; omega)]; exact P.fs
  obtain ⟨h3, sl', a3, tr3, s3, mem3, len3⟩ := ev_seal tr2 (isWho_who nb.2 ⟨pl0, pl1⟩ (o := ow) ⟨ow0, ow1⟩) en hsl
  have ls2 : s < h2.n := Nat.lt_of_lt_of_le P.ls s12.1
  have fs3 : h3.f s = some (.lst ((S.map PyData.int).map .d)) := by rw [s3.2 s ls2 (by simp; omega)]; exact fs2
  have tp3 := tp2.same s3 (by simp; omega)
  have own := fun h : AH => ev_owner_ok b ⟨pl0, pl1⟩ ⟨ow0, ow1⟩ h
  have e5 : ∀ x11 x12 x13 x14, pr3_5 (prE p t (bankD ns m l) (chD M ps rows) i pu M ps rows s x10 x11 x12 x13 x14) h = .nx (prE p t (bankD ns m l) (chD M ps rows) i pu M ps rows s x10 x11 x12 (some (.d (.int pl))) (some (.d (.int ow)))) h2 := by
    intros
    simp [pr3_5, prE, a1, a2]
  have e6 : ∀ x11 x12, pr3_6 (prE p t (bankD ns m l) (chD M ps rows) i pu M ps rows s x10 x11 x12 (some (.d (.int pl))) (some (.d (.int ow)))) h2 = .nx (prE p t (bankD ns m l) (chD M ps rows) i pu M ps rows s x10 x11 x12 (some (.d (.int pl))) (some (.d (.int ow)))) h3 := by
    intros
    simp [pr3_6, prE, own, tr2.fo, a3]
  have e7 : ∀ x11 x12, pr3_7 (prE p t (bankD ns m l) (chD M ps rows) i pu M ps rows s x10 x11 x12 (some (.d (.int pl))) (some (.d (.int ow)))) h3 = .nx (prE p t (bankD ns m l) (chD M ps rows) i pu M ps rows s x10 x11 x12 (some (.d (.int pl))) (some (.d (.int ow)))) h3 := by
    intros
    have mu : mulO (.d (.int ow)) (.d (.int ns.length)) h3 = some (.d (.int (ow * ns.length))) := mul_ev 4 4 (by omega) (by omega) (by omega) (by omega) (by omega) h3
    have ok : ck 1 (who ns.length pl ow) = true := isWho_ck (isWho_who nb.2 ⟨pl0, pl1⟩ ⟨ow0, ow1⟩)
    have ne : neO (.d (who ns.length pl ow)) (.d (.tuple [.str (Str.ofString "owner"), .int (pl + ow * ns.length)])) h3 = some (.d (.bool false)) := by
      rw [show PyData.tuple [.str (Str.ofString "owner"), .int (pl + ow * ns.length)] = who ns.length pl ow from rfl, neD_ev _ _ _ (ck_okD ok (by omega)) (ck_okD ok (by omega)), (ck_eqv 1 _ _ ok 1 ok).mpr rfl]
      rfl
    simp [pr3_7, prE, own, mu, ne]
  have pre : ∀ E2, (sSeq pr3_5 (sSeq pr3_6 (sSeq pr3_7 pr3_8))) E2 h = (sSeq pr3_5 (sSeq pr3_6 (sSeq pr3_7 pr3_8))) E2 h := fun _ => rfl
  have first : ∀ R, (sSeq pr3_1 (sSeq pr3_2 (sSeq pr3_3 (sSeq pr3_4 R)))) (prE p t (bankD ns m l) (chD M ps rows) i pu M ps rows s x10 x11 x12 x13 x14) h = R (prE p t (bankD ns m l) (chD M ps rows) i pu M ps rows s x10 (some (.d (rowT (signers M ns.length pu i sl)))) (some (.d (.bool (sgd rows ps (signers M ns.length pu i sl))))) x13 x14) h := by
    intro R
    unfold prE
    simp only [ev_sSeq, ev_pr1 (M := M) P (show M ≤ 5 by omega), ev_pr2 sg, ev_pr3, ev_pr4 kc sg]
  have same3 : Same [p, q, t + 3, s] h h3 := (s12.mono (by simp)).trans (s3.mono (by simp))
  have memw : ∀ o, (PyData.tuple [who ns.length pu o, nm i] ∈ sl' ↔ (pl = pu ∧ ow = o) ∨ PyData.tuple [who ns.length pu o, nm i] ∈ sl) := by
    intro o
    rw [mem3]
    have : PyData.tuple [who ns.length pu o, nm i] = .tuple [who ns.length pl ow, nm i] ↔ (pl = pu ∧ ow = o) := by
      constructor
      · intro e
        injection e with e
        simp only [List.cons.injEq, and_true] at e
        obtain ⟨a, b⟩ := (who_inj (by omega) pu1 ⟨pl0, pl1⟩).mp e
        exact ⟨a.symm, b.symm⟩
      · rintro ⟨rfl, rfl⟩
        rfl
    rw [this]
  by_cases c : pl = pu ∧ ow ∉ S
  · obtain ⟨rfl, nin⟩ := c
    have e8 : ∀ x11 x12, pr3_8 (prE p t (bankD ns m l) (chD M ps rows) i pl M ps rows s x10 x11 x12 (some (.d (.int pl))) (some (.d (.int ow)))) h3 = .nx (prE p t (bankD ns m l) (chD M ps rows) i pl M ps rows s x10 x11 x12 (some (.d (.int pl))) (some (.d (.int ow)))) (h3.set s (.lst (((S ++ [ow]).map PyData.int).map .d))) := by
      intros
      have len : S.length < 1000000 := by
        have := List.Nodup.length_le_of_subset P.nd (l₂ := intsTo 6) (fun o ho => intsTo_mem.mpr (by have := P.rg o ho; omega))
        simp [intsTo] at this
        omega
      simp [pr3_8, prE, notin_list fs3, nin, lstAt, fs3, appendM, len]
    refine ⟨some (.d (rowT (signers M ns.length pl i sl))), some (.d (.bool (sgd rows ps (signers M ns.length pl i sl)))), some (.d (.int pl)), some (.d (.int ow)), h3.set s (.lst (((S ++ [ow]).map PyData.int).map .d)), sl', S ++ [ow], by rw [first]; simp only [ev_sSeq, e5, e6, e7, e8], ⟨?_, ?_, by simp, ?_, ap, ?_, ?_, ?_⟩, len3, same3.set (by simp)⟩
    · exact tr3.same (S := [s]) ((Same.refl _ h3).set (by simp)) (by simp; omega)
    · exact (tp3.same (S := [s]) ((Same.refl _ h3).set (by simp)) (by simp; exact ⟨fun z => ap.1 z.symm, fun z => ap.2.1 z.symm⟩)).mono (by omega)
    · exact Nat.lt_of_lt_of_le P.ls same3.1
    · rw [List.nodup_append]
      refine ⟨P.nd, by simp, fun x hx y hy z => ?_⟩
      rw [List.mem_singleton.mp hy] at z
      subst z
      exact nin hx
    · intro o ho
      rcases List.mem_append.mp ho with ho | ho
      · exact P.rg o ho
      · rw [List.mem_singleton.mp ho]
        exact ⟨ow0, ow1⟩
    · intro o h0 h1
      rw [memw, P.is o h0 h1, List.mem_append, List.mem_singleton]
      constructor
      · rintro (⟨_, rfl⟩ | z)
        · exact .inr rfl
        · exact .inl z
      · rintro (z | rfl)
        · exact .inr z
        · exact .inl ⟨rfl, rfl⟩
  · have e8 : ∀ x11 x12, pr3_8 (prE p t (bankD ns m l) (chD M ps rows) i pu M ps rows s x10 x11 x12 (some (.d (.int pl))) (some (.d (.int ow)))) h3 = .nx (prE p t (bankD ns m l) (chD M ps rows) i pu M ps rows s x10 x11 x12 (some (.d (.int pl))) (some (.d (.int ow)))) h3 := by
      intros
      by_cases e : pl = pu
      · have : ow ∈ S := by
          refine Classical.byContradiction fun z => c ⟨e, z⟩
        simp [pr3_8, prE, notin_list fs3, this, e]
      · simp [pr3_8, prE, e]
    refine ⟨some (.d (rowT (signers M ns.length pu i sl))), some (.d (.bool (sgd rows ps (signers M ns.length pu i sl)))), some (.d (.int pl)), some (.d (.int ow)), h3, sl', S, by rw [first]; simp only [ev_sSeq, e5, e6, e7, e8], ⟨tr3, tp3.mono (by omega), fs3, Nat.lt_of_lt_of_le P.ls same3.1, ap, P.nd, P.rg, ?_⟩, len3, same3⟩
    intro o h0 h1
    rw [memw, P.is o h0 h1]
    constructor
    · rintro (⟨rfl, rfl⟩ | z)
      · exact Classical.byContradiction fun z => c ⟨rfl, z⟩
      · exact z
    · exact .inr
theorem ev_payment (tr : TrAt h t cs sl) (tp : TpAt h p q k) (hk : k ≤ 600000000) (ap : (p < t ∨ t + 3 < p) ∧ (q < t ∨ t + 3 < q)) (b : BankOk ns m l) (kc : ChOk (M : Int) ps rows) {k1 to a z : PyData} (hi : cs[i]? = some (.tuple [.str "pay", .int pu, k1, to, a, z])) (ho : outC cs.length ns.length (.tuple [.str "pay", .int pu, k1, to, a, z]) = true) (hl : cs.length ≤ 1000000) (hsl : sl.length < 1000) (fresh : ∀ o, PyData.tuple [who ns.length pu o, nm i] ∉ sl) : ∃ (h' : AH) (sl' : List PyData), f__law_payment_right [.ref p, .ref t, .d (bankD ns m l), .d (chD M ps rows), .d (nm i), .d (.int pu)] h = .ok (.d (.bool true)) h' ∧ TrAt h' t cs sl' ∧ TpAt h' p q (k + 20) ∧ sl'.length ≤ sl.length + 8 ∧ Same [p, q, t + 3] h h' := by
  have tlt := tr.lt
  have plt := tp.lt
  have S0 : Same [] h (h.new (.lst [])) := (Same.refl _ h).new
  have P0 : PrS (h.new (.lst [])) p q t h.n cs sl ns.length pu i [] k := ⟨tr.same S0 (by simp), tp.same S0 (by simp), by simp, by simp, ⟨by omega, by omega, by omega, ap⟩, by simp, by simp, fun o _ _ => by simp [fresh o]⟩
  obtain ⟨ρ', h', e3, y10, y11, y12, y13, y14, sl', S', eρ, P', len', same'⟩ := forL_at (chk := fun _ => True) (g := gN 10) (b := sSeq pr3_1 (sSeq pr3_2 (sSeq pr3_3 (sSeq pr3_4 (sSeq pr3_5 (sSeq pr3_6 (sSeq pr3_7 pr3_8))))))) (fun j ρ h1 => ∃ (y10 y11 y12 y13 y14 : Option W) (sl' : List PyData) (S' : List Int), ρ = prE p t (bankD ns m l) (chD M ps rows) i pu M ps rows h.n y10 y11 y12 y13 y14 ∧ PrS h1 p q t h.n cs sl' ns.length pu i S' (k + 2 * j) ∧ sl'.length ≤ sl.length + j ∧ Same [p, q, t + 3, h.n] (h.new (.lst [])) h1) (fun _ _ _ _ => trivial) (rngW 0 8) 0 (prE p t (bankD ns m l) (chD M ps rows) i pu M ps rows h.n none none none none none) (h.new (.lst [])) ⟨none, none, none, none, none, sl, [], rfl, P0, by omega, Same.refl _ _⟩ (by
    rintro j x hx ρ h1 ⟨y10, y11, y12, y13, y14, sl1, S1, rfl, P1, len1, same1⟩
    rw [Nat.zero_add] at *
    have hj : j < 8 := by
      obtain ⟨a, _⟩ := List.getElem?_eq_some_iff.mp hx
      simpa [rngW] using a
    obtain ⟨z11, z12, z13, z14, h2, sl2, S2, e, P2, len2, same2⟩ := ev_lap P1 (by omega) b kc hi ho hl (by omega) (some x) y11 y12 y13 y14
    exact ⟨_, rfl, _, h2, e, some x, z11, z12, z13, z14, sl2, S2, rfl, by rw [show k + 2 * (j + 1) = k + 2 * j + 2 by omega]; exact P2, by omega, same1.trans same2⟩)
  subst eρ
  have l8 : (rngW 0 8).length = 8 := by simp [rngW]
  rw [l8] at P' len'
  refine ⟨h', sl', ?_, P'.tr, P'.tp.mono (by omega), by omega, ⟨by have := same'.1; simp at this; omega, fun j hj hs => ?_⟩⟩
  · unfold f__law_payment_right
    rw [mkFn_end, b_pr_eq]
    simp only [List.map, List.length, List.replicate, List.cons_append, List.nil_append, Nat.reduceSub, Nat.reduceAdd]
    have e1 : pr1 [some (.ref p), some (.ref t), some (.d (bankD ns m l)), some (.d (chD M ps rows)), some (.d (nm i)), some (.d (.int pu)), none, none, none, none, none, none, none, none, none, none] h = .nx [some (.ref p), some (.ref t), some (.d (bankD ns m l)), some (.d (chD M ps rows)), some (.d (nm i)), some (.d (.int pu)), some (.d (.int M)), some (.d (rowT ps)), some (.d (.tuple (rows.map rowT))), none, none, none, none, none, none, none] h := by
      simp [pr1, chD]
    have e2 : pr2 [some (.ref p), some (.ref t), some (.d (bankD ns m l)), some (.d (chD M ps rows)), some (.d (nm i)), some (.d (.int pu)), some (.d (.int M)), some (.d (rowT ps)), some (.d (.tuple (rows.map rowT))), none, none, none, none, none, none, none] h = .nx (prE p t (bankD ns m l) (chD M ps rows) i pu M ps rows h.n none none none none none) (h.new (.lst [])) := by
      simp [pr2, prE]
    have e4 : pr3 (prE p t (bankD ns m l) (chD M ps rows) i pu M ps rows h.n none none none none none) (h.new (.lst [])) = .nx (prE p t (bankD ns m l) (chD M ps rows) i pu M ps rows h.n y10 y11 y12 y13 y14) h' := by
      unfold pr3
      rw [ev_for, ev_range1]
      simp only [ev_c, out_ok]
      rw [if_pos (by omega)]
      exact e3
    simp only [ev_sSeq, e1, e2, e4]
    simp [pr4]
  · rw [same'.2 j (by simp; omega) (by simp at hs ⊢; omega)]
    rw [new_f, if_neg (by omega)]
end
end Q

set_option Elab.async false
set_option maxRecDepth 100000
set_option linter.all false
set_option autoImplicit false
set_option maxHeartbeats 1000000
/-! K19A: the law's lap. -/
namespace Q
open PySem PySem.Spec PyProof.Rows L2 LamX
open Classical
noncomputable def lw1 : SemS := (sSet 1 (eCall 1 f__law_begun (aCons (eVar 0) aNil)))
noncomputable def lw2_1 : SemS := (sParG 3 (gsCons (gN 3) (gsCons (gN 4) (gsCons (gN 5) gsNil))) (aCons (eCall 2 f__law_bank (aCons (eVar 1) (aCons (eC (.int 3)) aNil))) (aCons (eMake "Trust" 1 f_Trust___init__ aNil) (aCons (eCall 1 f__law_charter (aCons (eVar 1) aNil)) aNil))))
noncomputable def lw2_2 : SemS := (sIf (tOrS (tOf (eOp isNotO (eCall 1 f_is_charter (aCons (eVar 5) aNil)) (eC (.bool true)))) (tOf (eOp neO (eComp [10] (iSeq (eCall 1 f__law_near (aCons (eVar 5) aNil))) (gN 10) (tOf (eOp isNotO (eCall 1 f_is_charter (aCons (eVar 10) aNil)) (eC (.bool false)))) (eVar 10)) (eLstD aNil)))) (sRet (eC (.bool false))) sNil)
noncomputable def lw2_3 : SemS := (sSet 6 (eCall 2 f__law_draw (aCons (eVar 1) (aCons (eApp lenO (aCons (eOp ixO (eVar 3) (eC (.int 0))) aNil)) aNil))))
noncomputable def lw2_4 : SemS := (sSet 7 (eMeth "Trust" "name" 2 f_Trust_name (eVar 4) (aCons (eTup (aCons (eC (.str "pay")) (aCons (eVar 6) (aCons (eC (.int 1)) (aCons (eC (.int 0)) (aCons (eC (.int 3)) (aCons (eOp mulO (eTup (aCons (eC .none) aNil)) (eApp lenO (aCons (eOp ixO (eVar 3) (eC (.int 0))) aNil))) aNil))))))) aNil)))
noncomputable def lw2_5 : SemS := (sIf (tNotS (tOf (eCall 6 f__law_payment_right (aCons (eVar 1) (aCons (eVar 4) (aCons (eVar 3) (aCons (eVar 5) (aCons (eVar 7) (aCons (eVar 6) aNil))))))))) (sRet (eC (.bool false))) sNil)
noncomputable def lw2_6 : SemS := (sSet 8 (eClos (aCons (eLam 0) (aCons (eLam 1) aNil))))
noncomputable def lw2_7 : SemS := (sIf (tOrS (tOf (eOp neO (eCompC [11] (iSeq (eVar 8)) (gN 11) (fun ρ0 => (tNotS (tOf (eUn (isiO (isiC CLS "BadTrust")) (eCaughtB ERRS lams_law ρ0 (eVar 11)))))) (fun ρ0 => (eVar 11))) (eLstD aNil))) (tNotS (tOf (eUn (isiO (isiC CLS "BadBank")) (eCaught ERRS lams_law (eLam 2)))))) (sRet (eC (.bool false))) sNil)
noncomputable def lw2_8 : SemS := (sFor (iSeq (eCall 1 f__law_near (aCons (eVar 5) aNil))) (gN 9) (sIf (tNotS (tOf (eUn (isiO (isiC CLS "BadCharter")) (eCaught ERRS lams_law (eLam 3))))) (sRet (eC (.bool false))) sNil))
noncomputable def lw2_9 : SemS := (sFor (iSeq (eLstD (aCons (eC .none) (aCons (eMeth "Trust" "name" 2 f_Trust_name (eVar 4) (aCons (eC (.str "word")) aNil)) (aCons (eTup (aCons (eC (.str "name")) (aCons (eOp powO (eC (.int 10)) (eC (.int 6))) aNil))) (aCons (eC (.int 5)) aNil)))))) (gN 9) (sIf (tNotS (tOf (eUn (isiO (isiC CLS "BadPayment")) (eCaught ERRS lams_law (eLam 4))))) (sRet (eC (.bool false))) sNil))
noncomputable def lw2_10 : SemS := (sFor (iSeq (eLstD (aCons (eC .none) (aCons (eUn negO (eC (.int 1))) (aCons (eC (.int 6)) (aCons (eC (.bool true)) aNil)))))) (gN 9) (sIf (tNotS (tOf (eUn (isiO (isiC CLS "BadOwner")) (eCaught ERRS lams_law (eLam 5))))) (sRet (eC (.bool false))) sNil))
noncomputable def lw2_11 : SemS := (sFor (iSeq (eLstD (aCons (eC .none) (aCons (eUn negO (eC (.int 1))) (aCons (eApp lenO (aCons (eOp ixO (eVar 3) (eC (.int 0))) aNil)) (aCons (eC (.bool true)) aNil)))))) (gN 9) (sIf (tNotS (tOf (eUn (isiO (isiC CLS "BadPurse")) (eCaught ERRS lams_law (eLam 6))))) (sRet (eC (.bool false))) sNil))
noncomputable def lw2 : SemS := (sFor (iRange1 (eOp addO (eC (.int 6)) (eApp minO (aCons (eApp lenO (aCons (eVar 0) aNil)) (aCons (eC (.int 12)) aNil))))) (gN 2) (sSeq lw2_1 (sSeq lw2_2 (sSeq lw2_3 (sSeq lw2_4 (sSeq lw2_5 (sSeq lw2_6 (sSeq lw2_7 (sSeq lw2_8 (sSeq lw2_9 (sSeq lw2_10 lw2_11)))))))))))
noncomputable def lw3 : SemS := (sRet (eAnd (eOp eqO (eCall 3 f_owner_of (aCons (eTup (aCons (eTup (aCons (eC (.int 1)) (aCons (eC (.int 1)) aNil))) (aCons (eC (.int 1)) (aCons (eC (.int 0)) aNil)))) (aCons (eC (.int 1)) (aCons (eC (.int 5)) aNil)))) (eTup (aCons (eC (.str "owner")) (aCons (eC (.int 11)) aNil)))) (eNot (eUn (isiO (isiC CLS "PurseError")) (eVar 1)))))
theorem b_lw_eq : b_law = (sSeq lw1 (sSeq lw2 lw3)) := rfl
theorem exc_is (c : String) (hc : c ∈ CLS.es) (h : AH) : isiO (isiC CLS c) (.exc c []) h = some (.d (.bool true)) := by
  simp [isiO, isiC, typW, hc, ClsT.sub, bO]
theorem caught_err {c : String} {ρ : Env'} {h : AH} {k : Nat} {mk : SemE} (hk : lams_law[k]? = some mk) (e : mk (flatE ρ) h = .err c [] h) (hc : c ∈ ERRS) : eCaught ERRS lams_law (eLam k) ρ h = .ok (.exc c []) h := by
  simp only [eCaught, ev_lam, out_ok, hk, e, caughtTo, if_pos hc]
/-- the slots -/
def lwE (x0 : W) (p : Nat) (x2 : Option W) (bk : PyData) (t : Nat) (ch : PyData) (x6 x7 x8 x9 : Option W) : Env' := [some x0, some (.ref p), x2, some (.d bk), some (.ref t), some (.d ch), x6, x7, x8, x9, none, none]
def payC (n : Nat) (pu : Int) : PyData := .tuple [.str "pay", .int pu, .int 1, .int 0, .int 3, .tuple (List.replicate n .none)]
theorem pAlls_rep (f : PyData → Bool) (hf : f .none = true) : ∀ n, pAlls f (List.replicate n .none) = true
  | 0 => rfl
  | n + 1 => by rw [List.replicate_succ, pAlls, pAlls_rep f hf n]; simp [pAll, hf]
theorem ck_pay (n : Nat) : ck n (.str (Str.ofString "pay")) = true := by rw [ck_str]; decide +kernel
theorem ck_word (n : Nat) : ck n (.str (Str.ofString "word")) = true := by rw [ck_str]; decide +kernel
theorem pay_ck {n : Nat} {pu : Int} : ck 6 (payC n pu) = true := by
  have q : ck 5 (.tuple (List.replicate n .none)) = true := by
    rw [ck_tup, List.all_eq_true]
    intro x hx
    rw [List.eq_of_mem_replicate hx]
    exact ck_none _
  rw [payC, ck_tup]
  simp only [List.all_cons, List.all_nil, ck_int, q, ck_pay, Bool.and_true]
theorem nf_rep (n : Nat) : nameForm (.tuple (List.replicate n .none)) = false := by
  match n with
  | 0 => rfl
  | 1 => rfl
  | 2 => rfl
  | n + 3 => rfl
theorem pay_good {n : Nat} {pu : Int} (k : Nat) (hp : 0 ≤ pu ∧ pu ≤ 8) : pAll (goodIt k) (payC n pu) = true := by
  have nf : nameForm (payC n pu) = false := rfl
  have r := pAlls_rep (goodIt k) (by rfl) n
  have i : ∀ j : Int, 0 ≤ j ∧ j ≤ 8 → pAll (goodIt k) (.int j) = true := fun j hj => by
    rw [pAll]
    have : isPlain (.int j) = true := by simp only [isPlain, decide_eq_true_eq]; omega
    simp [goodIt, this]
  have s : pAll (goodIt k) (.str (Str.ofString "pay")) = true := by rw [pAll]; simp [goodIt, isPlain]
  rw [payC] at nf ⊢
  rw [pAll, nf]
  simp only [pAlls, s, i pu hp, i 1 (by omega), i 0 (by omega), i 3 (by omega)]
  rw [pAll, nf_rep]
  simp [r]
theorem sz_str' (s : Str) : sz (.str s) = 1 := by rw [sz]; intro _ z; cases z
theorem pay_sz {n : Nat} {pu : Int} (hn : n ≤ 8) : sz (payC n pu) ≤ 1000000 := by
  have := szs_le (B := 1) (xs := List.replicate n .none) fun x hx => by
    rw [List.eq_of_mem_replicate hx, sz_none']
    omega
  simp only [List.length_replicate] at this
  rw [payC, sz_tup, szs_cons, szs_cons, szs_cons, szs_cons, szs_cons, szs_cons, szs_nil, sz_str', sz_int, sz_int, sz_int, sz_int, sz_tup]
  omega
theorem pay_outer {n nb : Nat} {pu : Int} (hp : 0 ≤ pu ∧ pu < nb) (hb : 1 ≤ nb) : outC n nb (payC nb pu) = true := by
  have h1 : isIx nb (.int pu) = true := by simp [isIx]; omega
  have h2 : isIx nb (.int 0) = true := by simp [isIx]; omega
  have h3 : isNum (.int 1) 1 = true := by rfl
  have h4 : isNum (.int 3) 1 = true := by rfl
  have h5 : czOk n nb (.tuple (List.replicate nb .none)) = true := by
    simp [czOk, isNone]
  show (isS "pay" (.str "pay") && (isIx nb (.int pu) && (isIx nb (.int 0) && (isNum (.int 1) 1 && (isNum (.int 3) 1 && czOk n nb (.tuple (List.replicate nb .none))))))) = true
  rw [h1, h2, h3, h4, h5]
  rfl
section
variable {h : AH} {p q t s : Nat} {cs sl : List PyData} {ns : List Int} {m l : Int} {M : Nat} {ps : List Int} {rows : List (List Int)} {i : Nat} {pu : Int} {k : Nat} {x0 : W}
theorem ev_newT (tp : TpAt h p q k) (ρ : Env') : ∃ h', eMake "Trust" 1 f_Trust___init__ aNil ρ h = .ok (.ref h.n) h' ∧ TrAt h' h.n [] [] ∧ TpAt h' p q k ∧ Same [] h h' := by
  obtain ⟨h', e, tr, sm⟩ := ev_init (h := h.new (.ins "Trust" [])) (t := h.n) (by simp) (by simp)
  have plt := tp.lt
  have s0 : Same [] h h' := ⟨by have := sm.1; simp at this; omega, fun j hj _ => by rw [sm.2 j (by simp; omega) (by simp; omega), new_f, if_neg (by omega)]⟩
  refine ⟨h', ?_, tr, tp.same s0 (by simp), s0⟩
  simp [e]
theorem ev_lw1 (tp : TpAt h p q k) (hk : k ≤ 500000000) (x2 x3 x4 x5 x6 x7 x8 x9 : Option W) : ∃ (ns : List Int) (m l : Int) (M : Nat) (ps : List Int) (rows : List (List Int)) (t : Nat) (h' : AH), lw2_1 [some x0, some (.ref p), x2, x3, x4, x5, x6, x7, x8, x9, none, none] h = .nx (lwE x0 p x2 (bankD ns m l) t (chD M ps rows) x6 x7 x8 x9) h' ∧ BankOk ns m l ∧ ns.length ≤ 3 ∧ ChOk (M : Int) ps rows ∧ TrAt h' t [] [] ∧ TpAt h' p q (k + 60) ∧ p < t ∧ q < t := by
  obtain ⟨ns, m, l, h1, e1, b, n3, tp1, s1⟩ := ev_bank tp (by omega) (N := 3) (by omega) (by omega)
  obtain ⟨h2, e2, tr2, tp2, s2⟩ := ev_newT tp1 [some x0, some (.ref p), x2, x3, x4, x5, x6, x7, x8, x9, none, none]
  obtain ⟨cm, ps, rows, h3, e3, kc, tp3, s3⟩ := ev_charter tp2 (by omega)
  obtain ⟨M, rfl⟩ : ∃ M : Nat, cm = (M : Int) := ⟨cm.toNat, by have := kc.lim; omega⟩
  have plt := tp1.lt
  refine ⟨ns, m, l, M, ps, rows, h1.n, h3, ?_, b, by omega, kc, tr2.same s3 (by simp; omega), tp3.mono (by omega), plt.1, plt.2⟩
  have f1 : (chD M ps rows : PyData) = chD M ps rows := rfl
  unfold lw2_1
  simp [e1, e2, e3, lwE, -ev_make]
theorem ev_lw2 (kc : ChOk (M : Int) ps rows) (x1 x2 x3 x4 x6 x7 x8 x9 : Option W) : lw2_2 [some x0, x1, x2, x3, x4, some (.d (chD M ps rows)), x6, x7, x8, x9, none, none] h = .nx [some x0, x1, x2, x3, x4, some (.d (chD M ps rows)), x6, x7, x8, x9, none, none] h := by
  have ch := ev_is_charter (ch_small kc).1 (ch_small kc).2 h
  rw [charter_ok kc] at ch
  have nr := ev_near kc h
  have f1 := comp_fil (own := [10]) (mi := iSeq (eCall 1 f__law_near (aCons (eVar 5) aNil))) (g := gN 10) (mt := tOf (eOp isNotO (eCall 1 f_is_charter (aCons (eVar 10) aNil)) (eC (.bool false)))) (me := eVar 10) (ρ := [some x0, x1, x2, x3, x4, some (.d (chD M ps rows)), x6, x7, x8, x9, none, none]) (h := h) (ds := nears M ps rows) (chk := fun _ => True) (fun _ => false) (fun x => x) (by simp [nr]) trivial (by
    intro x hx
    have is := ev_is_charter (near_ok kc x hx).1 (near_ok kc x hx).2 h
    rw [near_bad kc x hx] at is
    exact ⟨_, rfl, by simp [wipR, is, isNotO, bO], fun z => by cases z⟩)
  rw [show (nears M ps rows).filter (fun _ => false) = [] by simp] at f1
  unfold lw2_2
  simp [ch, isNotO, bO, f1, neL]
theorem loop_same {g : SemG} {b : SemS} {ds : List PyData} {chk : AH → Prop} {h : AH} (E : Option W → Env') (hc : chk h) (hb : ∀ x ∈ ds, ∀ y, g (.d x) (E y) = some (E (some (.d x))) ∧ b (E (some (.d x))) h = .nx (E (some (.d x))) h) (y : Option W) : ∃ y', forL chk g b (ds.map .d) (E y) h = .nx (E y') h := by
  obtain ⟨ρ', h', e, rfl, y', rfl⟩ := forL_inv (chk := chk) (g := g) (b := b) (fun ρ h' => h' = h ∧ ∃ y, ρ = E y) (fun ρ h' j => by rw [j.1]; exact hc) (ds.map .d) (E y) h ⟨rfl, y, rfl⟩ (by
    rintro w hw ρ h' ⟨rfl, y, rfl⟩
    obtain ⟨x, hx, rfl⟩ := List.mem_map.mp hw
    obtain ⟨a, b⟩ := hb x hx y
    exact ⟨_, a, _, _, b, rfl, _, rfl⟩)
  exact ⟨y', e⟩
theorem ev_lw7 (tr : TrAt h t cs sl) (x1 x2 x3 x5 x6 x7 x9 : Option W) : lw2_7 [some x0, x1, x2, x3, some (.ref t), x5, x6, x7, some (.clos [0, 1]), x9, none, none] h = .nx [some x0, x1, x2, x3, some (.ref t), x5, x6, x7, some (.clos [0, 1]), x9, none, none] h := by
  have sgn : ∀ (x a b c : PyData) h, f_signed_by [.d x, .d a, .d b, .d c] h = .err "BadTrust" [] h := fun x a b c h => by
    simp [f_signed_by, b_signed_by, ev_need_noTrust]
  have iss : ∀ (x a b c : PyData) h, f_is_signed [.d x, .d a, .d b, .d c] h = .err "BadTrust" [] h := fun x a b c h => by
    simp [f_is_signed, b_is_signed, sgn]
  have q := compL_filter (chk := fun _ => True) (g := gN 11) (mt := tNotS (tOf (eUn (isiO (isiC CLS "BadTrust")) (eCaughtB ERRS lams_law (flatE [some x0, x1, x2, x3, some (.ref t), x5, x6, x7, some (.clos [0, 1]), x9, none, none]) (eVar 11))))) (me := eVar 11) (ρ := [some x0, x1, x2, x3, some (.ref t), x5, x6, x7, some (.clos [0, 1]), x9, none, none]) (h := h) (fun _ => false) (fun w => w) trivial ([0, 1].map .clo) (by
    intro v hv
    simp only [List.map_cons, List.map_nil, List.mem_cons, List.not_mem_nil, or_false] at hv
    refine ⟨_, rfl, ?_, fun z => by cases z⟩
    have ex := exc_is "BadTrust" (by decide) h
    rcases hv with rfl | rfl
    · simp [eCaughtB, lams_law, caughtTo, sgn, ERRS, ex]
    · simp [eCaughtB, lams_law, caughtTo, iss, ERRS, ex])
  simp only [List.map_cons, List.map_nil, List.filter_cons, List.filter_nil, Bool.false_eq_true, if_false] at q
  have l2 : eCaught ERRS lams_law (eLam 2) [some x0, x1, x2, x3, some (.ref t), x5, x6, x7, some (.clos [0, 1]), x9, none, none] h = .ok (.exc "BadBank" []) h := caught_err rfl (by simp [ev_owner_none]) (by decide)
  have ex := exc_is "BadBank" (by decide) h
  have cc : eCompC [11] (iSeq (eVar 8)) (gN 11) (fun ρ0 => (tNotS (tOf (eUn (isiO (isiC CLS "BadTrust")) (eCaughtB ERRS lams_law ρ0 (eVar 11)))))) (fun ρ0 => (eVar 11)) [some x0, x1, x2, x3, some (.ref t), x5, x6, x7, some (.clos [0, 1]), x9, none, none] h = .ok (.d (.list [])) h := by
    show ((iSeq (eVar 8) _ h).bind fun p h1 => _) = _
    simp only [ev_seq, ev_var, List.getElem?_cons_zero, List.getElem?_cons_succ, out_ok, wipR, List.set, List.map_cons, List.map_nil, q, allD_nil, Option.map_some, ofOpt_some]
  unfold lw2_7
  simp [cc, neL, l2, ex]
theorem ev_lw8 (tr : TrAt h t cs sl) (b : BankOk ns m l) (kc : ChOk (M : Int) ps rows) (x2 x6 x7 x9 : Option W) (p : Nat) (fx : x0.flat = true) : ∃ y, lw2_8 (lwE x0 p x2 (bankD ns m l) t (chD M ps rows) x6 x7 (some (.clos [0, 1])) x9) h = .nx (lwE x0 p x2 (bankD ns m l) t (chD M ps rows) x6 x7 (some (.clos [0, 1])) y) h := by
  obtain ⟨y, e⟩ := loop_same (g := gN 9) (b := (sIf (tNotS (tOf (eUn (isiO (isiC CLS "BadCharter")) (eCaught ERRS lams_law (eLam 3))))) (sRet (eC (.bool false))) sNil)) (ds := nears M ps rows) (chk := fun _ => True) (h := h) (fun y => lwE x0 p x2 (bankD ns m l) t (chD M ps rows) x6 x7 (some (.clos [0, 1])) y) trivial (fun x hx y => ⟨rfl, by
    have nc := ev_need_charter (near_ok kc x hx).1 (near_ok kc x hx).2 h
    rw [near_bad kc x hx] at nc
    have sg : f_signed_by [.ref t, .d (bankD ns m l), .d x, .d .none] h = .err "BadCharter" [] h := by
      simp [f_signed_by, b_signed_by, ev_need_trust tr, ev_need_bank b, nc]
    have f4 : (flatE (lwE x0 p x2 (bankD ns m l) t (chD M ps rows) x6 x7 (some (.clos [0, 1])) (some (.d x))))[4]? = some (some (.ref t)) := rfl
    have f3 : (flatE (lwE x0 p x2 (bankD ns m l) t (chD M ps rows) x6 x7 (some (.clos [0, 1])) (some (.d x))))[3]? = some (some (.d (bankD ns m l))) := rfl
    have f9 : (flatE (lwE x0 p x2 (bankD ns m l) t (chD M ps rows) x6 x7 (some (.clos [0, 1])) (some (.d x))))[9]? = some (some (.d x)) := rfl
    have l3 : eCaught ERRS lams_law (eLam 3) (lwE x0 p x2 (bankD ns m l) t (chD M ps rows) x6 x7 (some (.clos [0, 1])) (some (.d x))) h = .ok (.exc "BadCharter" []) h := caught_err rfl (by
      generalize flatE (lwE x0 p x2 (bankD ns m l) t (chD M ps rows) x6 x7 (some (.clos [0, 1])) (some (.d x))) = ρ0 at f3 f4 f9
      simp [f3, f4, f9, sg]) (by decide)
    simp [l3, exc_is "BadCharter" (by decide)]⟩) x9
  refine ⟨y, ?_⟩
  have nr := ev_near kc h
  unfold lw2_8
  rw [ev_for, ev_seq]
  have v5 : (eCall 1 f__law_near (aCons (eVar 5) aNil)) (lwE x0 p x2 (bankD ns m l) t (chD M ps rows) x6 x7 (some (.clos [0, 1])) x9) h = .ok (.d (.list (nears M ps rows))) h := by
    simp [lwE, nr]
  rw [v5]
  exact e
end
end Q

set_option Elab.async false
set_option maxRecDepth 100000
set_option linter.all false
set_option autoImplicit false
set_option maxHeartbeats 1000000
/-! K19B: the law. -/
namespace Q
open PySem PySem.Spec PyProof.Rows L2 LamX
open Classical
section
variable {h : AH} {p q t s : Nat} {cs sl : List PyData} {ns : List Int} {m l : Int} {M : Nat} {ps : List Int} {rows : List (List Int)} {i : Nat} {pu : Int} {k : Nat} {x0 : W}
theorem ev_lw9 (tr : TrAt h t cs sl) (b : BankOk ns m l) (kc : ChOk (M : Int) ps rows) (wn : PyData.str (Str.ofString "word") ∉ cs) (hl : cs.length ≤ 1000) (x2 x6 x7 x9 : Option W) (p : Nat) : ∃ y h', lw2_9 (lwE x0 p x2 (bankD ns m l) t (chD M ps rows) x6 x7 (some (.clos [0, 1])) x9) h = .nx (lwE x0 p x2 (bankD ns m l) t (chD M ps rows) x6 x7 (some (.clos [0, 1])) y) h' ∧ Same [t + 1, t + 2] h h' := by
  obtain ⟨h', cs', j, e1, tr', s', ec, ix⟩ := ev_name tr (x := .str (Str.ofString "word")) (by rw [sz_str']; omega) (by rw [pAll]; simp [goodIt, isPlain]) (ck_word 6) (by omega)
  rw [if_neg wn] at ec
  subst ec
  have jx := idxD_app_new (ck_word 6) 0 cs tr.kc wn
  rw [Nat.zero_add] at jx
  rw [jx] at ix
  have ix := Option.some.inj ix
  subst ix
  have hl' : (cs ++ [PyData.str (Str.ofString "word")]).length ≤ 1000000 := by simp; omega
  have bads : ∀ x ∈ [PyData.none, nm cs.length, .tuple [.str (Str.ofString "name"), .int 1000000], .int 5], outF (cs ++ [PyData.str (Str.ofString "word")]) ns.length x = false := by
    intro x hx
    simp only [List.mem_cons, List.not_mem_nil, or_false] at hx
    rcases hx with rfl | rfl | rfl | rfl
    · rfl
    · have lt : cs.length < (cs ++ [PyData.str (Str.ofString "word")]).length := by simp
      rw [outF_nm lt (isNm_nm lt (by omega))]
      simp [outC]
    · have : isNm (cs ++ [PyData.str (Str.ofString "word")]).length (.tuple [.str (Str.ofString "name"), .int 1000000]) = false := by
        have h0 : ¬ (1000000 : Int) < ((cs ++ [PyData.str (Str.ofString "word")]).length : Int) := by simp; omega
        show ((Str.ofString "name" == Str.ofString "name") && (decide ((0 : Int) ≤ 1000000) && decide ((1000000 : Int) < 1000000000000000000)) && decide ((1000000 : Int) < ((cs ++ [PyData.str (Str.ofString "word")]).length : Int))) = false
        rw [decide_eq_false h0, Bool.and_false]
      show (isNm _ _ && _) = false
      rw [this]
      rfl
    · rfl
  obtain ⟨y, e⟩ := loop_same (g := gN 9) (b := (sIf (tNotS (tOf (eUn (isiO (isiC CLS "BadPayment")) (eCaught ERRS lams_law (eLam 4))))) (sRet (eC (.bool false))) sNil)) (ds := [PyData.none, nm cs.length, .tuple [.str (Str.ofString "name"), .int 1000000], .int 5]) (chk := fun _ => True) (h := h') (fun y => lwE x0 p x2 (bankD ns m l) t (chD M ps rows) x6 x7 (some (.clos [0, 1])) y) trivial (fun x hx y => ⟨rfl, by
    have nc := ev_need_charter (ch_small kc).1 (ch_small kc).2 h'
    rw [charter_ok kc] at nc
    have eo := ev_outer tr' b hl' x
    rw [bads x hx] at eo
    have sg : f_signed_by [.ref t, .d (bankD ns m l), .d (chD M ps rows), .d x] h' = .err "BadPayment" [] h' := by
      simp [f_signed_by, b_signed_by, ev_need_trust tr', ev_need_bank b, nc, eo]
    have is : f_is_signed [.ref t, .d (bankD ns m l), .d (chD M ps rows), .d x] h' = .err "BadPayment" [] h' := by
      simp [f_is_signed, b_is_signed, sg]
    have f4 : (flatE (lwE x0 p x2 (bankD ns m l) t (chD M ps rows) x6 x7 (some (.clos [0, 1])) (some (.d x))))[4]? = some (some (.ref t)) := rfl
    have f3 : (flatE (lwE x0 p x2 (bankD ns m l) t (chD M ps rows) x6 x7 (some (.clos [0, 1])) (some (.d x))))[3]? = some (some (.d (bankD ns m l))) := rfl
    have f5 : (flatE (lwE x0 p x2 (bankD ns m l) t (chD M ps rows) x6 x7 (some (.clos [0, 1])) (some (.d x))))[5]? = some (some (.d (chD M ps rows))) := rfl
    have f9 : (flatE (lwE x0 p x2 (bankD ns m l) t (chD M ps rows) x6 x7 (some (.clos [0, 1])) (some (.d x))))[9]? = some (some (.d x)) := rfl
    have l3 : eCaught ERRS lams_law (eLam 4) (lwE x0 p x2 (bankD ns m l) t (chD M ps rows) x6 x7 (some (.clos [0, 1])) (some (.d x))) h' = .ok (.exc "BadPayment" []) h' := caught_err rfl (by
      generalize flatE (lwE x0 p x2 (bankD ns m l) t (chD M ps rows) x6 x7 (some (.clos [0, 1])) (some (.d x))) = ρ0 at f3 f4 f5 f9
      simp [f3, f4, f5, f9, is]) (by decide)
    simp [l3, exc_is "BadPayment" (by decide)]⟩) x9
  refine ⟨y, h', ?_, s'⟩
  have pw : powO (.d (.int 10)) (.d (.int 6)) h' = some (.d (.int 1000000)) := pow_ev (by omega) (by omega) (by decide) h'
  unfold lw2_9
  rw [ev_for, ev_seq]
  have v5 : (eLstD (aCons (eC .none) (aCons (eMeth "Trust" "name" 2 f_Trust_name (eVar 4) (aCons (eC (.str "word")) aNil)) (aCons (eTup (aCons (eC (.str "name")) (aCons (eOp powO (eC (.int 10)) (eC (.int 6))) aNil))) (aCons (eC (.int 5)) aNil))))) (lwE x0 p x2 (bankD ns m l) t (chD M ps rows) x6 x7 (some (.clos [0, 1])) x9) h = .ok (.d (.list [PyData.none, nm cs.length, .tuple [.str (Str.ofString "name"), .int 1000000], .int 5])) h' := by
    simp [lwE, tr.fo, e1, pw]
  rw [v5]
  exact e
theorem ev_lw10 (b : BankOk ns m l) (x2 x6 x7 x9 : Option W) (p : Nat) (ch : PyData) : ∃ y, lw2_10 (lwE x0 p x2 (bankD ns m l) t ch x6 x7 (some (.clos [0, 1])) x9) h = .nx (lwE x0 p x2 (bankD ns m l) t ch x6 x7 (some (.clos [0, 1])) y) h := by
  have nb := b.len
  obtain ⟨y, e⟩ := loop_same (g := gN 9) (b := (sIf (tNotS (tOf (eUn (isiO (isiC CLS "BadOwner")) (eCaught ERRS lams_law (eLam 5))))) (sRet (eC (.bool false))) sNil)) (ds := [PyData.none, .int (-1), .int 6, .bool true]) (chk := fun _ => True) (h := h) (fun y => lwE x0 p x2 (bankD ns m l) t ch x6 x7 (some (.clos [0, 1])) y) trivial (fun x hx y => ⟨rfl, by
    have z : isIx ns.length (.int 0) = true := by simp [isIx]; omega
    have ow : f_owner_of [.d (bankD ns m l), .d (.int 0), .d x] h = .err "BadOwner" [] h := by
      rw [ev_owner_of b, if_pos z]
      simp only [List.mem_cons, List.not_mem_nil, or_false] at hx
      rcases hx with rfl | rfl | rfl | rfl
      · rfl
      · simp [isIx]
      · simp [isIx]
      · rfl
    have f3 : (flatE (lwE x0 p x2 (bankD ns m l) t ch x6 x7 (some (.clos [0, 1])) (some (.d x))))[3]? = some (some (.d (bankD ns m l))) := rfl
    have f9 : (flatE (lwE x0 p x2 (bankD ns m l) t ch x6 x7 (some (.clos [0, 1])) (some (.d x))))[9]? = some (some (.d x)) := rfl
    have l3 : eCaught ERRS lams_law (eLam 5) (lwE x0 p x2 (bankD ns m l) t ch x6 x7 (some (.clos [0, 1])) (some (.d x))) h = .ok (.exc "BadOwner" []) h := caught_err rfl (by
      generalize flatE (lwE x0 p x2 (bankD ns m l) t ch x6 x7 (some (.clos [0, 1])) (some (.d x))) = ρ0 at f3 f9
      simp [f3, f9, ow]) (by decide)
    simp [l3, exc_is "BadOwner" (by decide)]⟩) x9
  refine ⟨y, ?_⟩
  unfold lw2_10
  rw [ev_for, ev_seq]
  have v5 : (eLstD (aCons (eC .none) (aCons (eUn negO (eC (.int 1))) (aCons (eC (.int 6)) (aCons (eC (.bool true)) aNil))))) (lwE x0 p x2 (bankD ns m l) t ch x6 x7 (some (.clos [0, 1])) x9) h = .ok (.d (.list [PyData.none, .int (-1), .int 6, .bool true])) h := by
    simp
  rw [v5]
  exact e
theorem ev_lw11 (b : BankOk ns m l) (x2 x6 x7 x9 : Option W) (p : Nat) (ch : PyData) : ∃ y, lw2_11 (lwE x0 p x2 (bankD ns m l) t ch x6 x7 (some (.clos [0, 1])) x9) h = .nx (lwE x0 p x2 (bankD ns m l) t ch x6 x7 (some (.clos [0, 1])) y) h := by
  have nb := b.len
  obtain ⟨y, e⟩ := loop_same (g := gN 9) (b := (sIf (tNotS (tOf (eUn (isiO (isiC CLS "BadPurse")) (eCaught ERRS lams_law (eLam 6))))) (sRet (eC (.bool false))) sNil)) (ds := [PyData.none, .int (-1), .int ns.length, .bool true]) (chk := fun _ => True) (h := h) (fun y => lwE x0 p x2 (bankD ns m l) t ch x6 x7 (some (.clos [0, 1])) y) trivial (fun x hx y => ⟨rfl, by
    have z : isIx ns.length x = false := by
      simp only [List.mem_cons, List.not_mem_nil, or_false] at hx
      rcases hx with rfl | rfl | rfl | rfl <;> simp [isIx]
    have ow : f_owner_of [.d (bankD ns m l), .d x, .d .none] h = .err "BadPurse" [] h := by
      rw [ev_owner_of b, z]
      rfl
    have f3 : (flatE (lwE x0 p x2 (bankD ns m l) t ch x6 x7 (some (.clos [0, 1])) (some (.d x))))[3]? = some (some (.d (bankD ns m l))) := rfl
    have f9 : (flatE (lwE x0 p x2 (bankD ns m l) t ch x6 x7 (some (.clos [0, 1])) (some (.d x))))[9]? = some (some (.d x)) := rfl
    have l3 : eCaught ERRS lams_law (eLam 6) (lwE x0 p x2 (bankD ns m l) t ch x6 x7 (some (.clos [0, 1])) (some (.d x))) h = .ok (.exc "BadPurse" []) h := caught_err rfl (by
      generalize flatE (lwE x0 p x2 (bankD ns m l) t ch x6 x7 (some (.clos [0, 1])) (some (.d x))) = ρ0 at f3 f9
      simp [f3, f9, ow]) (by decide)
    simp [l3, exc_is "BadPurse" (by decide)]⟩) x9
  refine ⟨y, ?_⟩
  unfold lw2_11
  rw [ev_for, ev_seq]
  have v5 : (eLstD (aCons (eC .none) (aCons (eUn negO (eC (.int 1))) (aCons (eApp lenO (aCons (eOp ixO (eVar 3) (eC (.int 0))) aNil)) (aCons (eC (.bool true)) aNil))))) (lwE x0 p x2 (bankD ns m l) t ch x6 x7 (some (.clos [0, 1])) x9) h = .ok (.d (.list [PyData.none, .int (-1), .int ns.length, .bool true])) h := by
    simp [lwE]
  rw [v5]
  exact e
theorem ev_lap19 (tp : TpAt h p q k) (hk : k ≤ 500000000) (fx : x0.flat = true) (x2 x3 x4 x5 x6 x7 x8 x9 : Option W) : ∃ (y3 y4 y5 y6 y7 y8 y9 : Option W) (h' : AH), (sSeq lw2_1 (sSeq lw2_2 (sSeq lw2_3 (sSeq lw2_4 (sSeq lw2_5 (sSeq lw2_6 (sSeq lw2_7 (sSeq lw2_8 (sSeq lw2_9 (sSeq lw2_10 lw2_11)))))))))) [some x0, some (.ref p), x2, x3, x4, x5, x6, x7, x8, x9, none, none] h = .nx [some x0, some (.ref p), x2, y3, y4, y5, y6, y7, y8, y9, none, none] h' ∧ TpAt h' p q (k + 1000) := by
  obtain ⟨ns, m, l, M, ps, rows, t, h1, e1, b, n3, kc, tr1, tp1, pt, qt⟩ := ev_lw1 (x0 := x0) tp hk x2 x3 x4 x5 x6 x7 x8 x9
  have nb := b.len
  have e2 := ev_lw2 (h := h1) (x0 := x0) kc (some (.ref p)) x2 (some (.d (bankD ns m l))) (some (.ref t)) x6 x7 x8 x9
  obtain ⟨pu, h2, a3, p0, p1, tp2, s2⟩ := ev_draw tp1 (by omega) (size := (ns.length : Int)) (by omega) (by omega)
  have tr2 := tr1.same s2 (by simp; omega)
  have e3 : lw2_3 (lwE x0 p x2 (bankD ns m l) t (chD M ps rows) x6 x7 x8 x9) h1 = .nx (lwE x0 p x2 (bankD ns m l) t (chD M ps rows) (some (.d (.int pu))) x7 x8 x9) h2 := by
    simp [lw2_3, lwE, a3]
  obtain ⟨h3, cs3, j, a4, tr3, s3, c3, i3⟩ := ev_name tr2 (x := payC ns.length pu) (pay_sz (by omega)) (pay_good _ (by omega)) pay_ck (by simp)
  rw [if_neg (by simp), List.nil_append] at c3
  subst c3
  have j0 : j = 0 := by
    simp only [idxD] at i3
    rw [if_pos ((ck_eqv 6 _ _ pay_ck 6 pay_ck).mpr rfl)] at i3
    exact (Option.some.inj i3).symm
  subst j0
  have tp3 := tp2.same s3 (by simp; omega)
  have e4 : lw2_4 (lwE x0 p x2 (bankD ns m l) t (chD M ps rows) (some (.d (.int pu))) x7 x8 x9) h2 = .nx (lwE x0 p x2 (bankD ns m l) t (chD M ps rows) (some (.d (.int pu))) (some (.d (nm 0))) x8 x9) h3 := by
    have mu : mulO (.d (.tuple [.none])) (.d (.int ns.length)) h2 = some (.d (.tuple (List.replicate ns.length .none))) := by
      have : (List.replicate (Int.toNat (ns.length : Int)) [PyData.none]).flatten = List.replicate ns.length .none := by simp
      show (if [PyData.none] ≠ [] ∧ 1 ≤ (ns.length : Int) ∧ (ns.length : Int) ≤ 1000 ∧ [PyData.none].length ≤ 1000 then some (W.d (.tuple (List.replicate (Int.toNat (ns.length : Int)) [PyData.none]).flatten)) else none) = _
      rw [this, if_pos ⟨by simp, by omega, by omega, by simp⟩]
    have a4' : f_Trust_name [.ref t, .d (.tuple [.str (Str.ofString "pay"), .int pu, .int 1, .int 0, .int 3, .tuple (List.replicate ns.length .none)])] h2 = .ok (.d (nm 0)) h3 := a4
    simp [lw2_4, lwE, tr2.fo, mu, a4']
  have hi : [payC ns.length pu][0]? = some (.tuple [.str "pay", .int pu, .int 1, .int 0, .int 3, .tuple (List.replicate ns.length .none)]) := rfl
  obtain ⟨h4, sl4, a5, tr4, tp4, len4, s4⟩ := ev_payment tr3 tp3 (by omega) ⟨.inl pt, .inl qt⟩ b kc hi (pay_outer ⟨p0, p1⟩ (by omega)) (by simp) (by simp) (by simp)
  have e5 : lw2_5 (lwE x0 p x2 (bankD ns m l) t (chD M ps rows) (some (.d (.int pu))) (some (.d (nm 0))) x8 x9) h3 = .nx (lwE x0 p x2 (bankD ns m l) t (chD M ps rows) (some (.d (.int pu))) (some (.d (nm 0))) x8 x9) h4 := by
    simp [lw2_5, lwE, a5]
  have e6 : lw2_6 (lwE x0 p x2 (bankD ns m l) t (chD M ps rows) (some (.d (.int pu))) (some (.d (nm 0))) x8 x9) h4 = .nx (lwE x0 p x2 (bankD ns m l) t (chD M ps rows) (some (.d (.int pu))) (some (.d (nm 0))) (some (.clos [0, 1])) x9) h4 := by
    simp [lw2_6, lwE, allC]
  have e7 := ev_lw7 (x0 := x0) tr4 (some (.ref p)) x2 (some (.d (bankD ns m l))) (some (.d (chD M ps rows))) (some (.d (.int pu))) (some (.d (nm 0))) x9
  obtain ⟨y8, e8⟩ := ev_lw8 (x0 := x0) tr4 b kc x2 (some (.d (.int pu))) (some (.d (nm 0))) x9 p fx
  obtain ⟨y9, h5, e9, s5⟩ := ev_lw9 (x0 := x0) tr4 b kc (by simp [payC]) (by simp) x2 (some (.d (.int pu))) (some (.d (nm 0))) y8 p
  obtain ⟨y10, e10⟩ := ev_lw10 (x0 := x0) (h := h5) (t := t) b x2 (some (.d (.int pu))) (some (.d (nm 0))) y9 p (chD M ps rows)
  obtain ⟨y11, e11⟩ := ev_lw11 (x0 := x0) (h := h5) (t := t) b x2 (some (.d (.int pu))) (some (.d (nm 0))) y10 p (chD M ps rows)
  have e2' : lw2_2 (lwE x0 p x2 (bankD ns m l) t (chD M ps rows) x6 x7 x8 x9) h1 = .nx (lwE x0 p x2 (bankD ns m l) t (chD M ps rows) x6 x7 x8 x9) h1 := e2
  have e7' : lw2_7 (lwE x0 p x2 (bankD ns m l) t (chD M ps rows) (some (.d (.int pu))) (some (.d (nm 0))) (some (.clos [0, 1])) x9) h4 = .nx (lwE x0 p x2 (bankD ns m l) t (chD M ps rows) (some (.d (.int pu))) (some (.d (nm 0))) (some (.clos [0, 1])) x9) h4 := e7
  refine ⟨_, _, _, _, _, _, _, h5, by simp only [ev_sSeq, e1, e2', e3, e4, e5, e6, e7', e8, e9, e10, e11]; rfl, (tp4.same s5 (by simp; omega)).mono (by omega)⟩
end
theorem law19 (ns : List Int) (hl : ns.length ≤ 63) (h : AH) (x : W) (hi : IsInts h x ns) : ∃ h', f_law [x] h = .ok (.d (.bool true)) h' := by
  have fx : x.flat = true := by
    rcases hi with rfl | ⟨i, rfl, _⟩ <;> rfl
  obtain ⟨p, q, h1, e1, tp1, s1, _, _⟩ := ev_begun hi fx
  have ln : lenO [x] h1 = some (.d (.int ns.length)) := by
    rcases hi.same s1 with rfl | ⟨i, rfl, _, hf⟩
    · simp
    · simp [lenO, lenL, hf]
  obtain ⟨m, em, m0⟩ : ∃ m : Int, m = 6 + (if (12 : Int) < (ns.length : Int) then (12 : Int) else (ns.length : Int)) ∧ 0 ≤ m ∧ m ≤ 20 := ⟨_, rfl, by split <;> omega⟩
  obtain ⟨ρ2, h2, e2, ⟨x2, x3, x4, x5, x6, x7, x8, x9, rfl⟩, tp2⟩ := forL_at (chk := fun _ => True) (g := gN 2) (b := sSeq lw2_1 (sSeq lw2_2 (sSeq lw2_3 (sSeq lw2_4 (sSeq lw2_5 (sSeq lw2_6 (sSeq lw2_7 (sSeq lw2_8 (sSeq lw2_9 (sSeq lw2_10 lw2_11)))))))))) (fun j ρ h => (∃ x2 x3 x4 x5 x6 x7 x8 x9 : Option W, ρ = [some x, some (.ref p), x2, x3, x4, x5, x6, x7, x8, x9, none, none]) ∧ TpAt h p q (j * 1000)) (fun _ _ _ _ => trivial) (rngW 0 m.toNat) 0 [some x, some (.ref p), none, none, none, none, none, none, none, none, none, none] h1 ⟨⟨none, none, none, none, none, none, none, none, rfl⟩, by simpa using tp1⟩ (by
    rintro j w hw ρ h3 ⟨⟨x2, x3, x4, x5, x6, x7, x8, x9, rfl⟩, tp⟩
    have hj : j < m.toNat := by
      obtain ⟨a, _⟩ := List.getElem?_eq_some_iff.mp hw
      simpa [rngW] using a
    rw [Nat.zero_add] at *
    obtain ⟨y3, y4, y5, y6, y7, y8, y9, h', a, b⟩ := ev_lap19 tp (by omega) fx (some w) x3 x4 x5 x6 x7 x8 x9
    exact ⟨_, rfl, _, h', a, ⟨some w, y3, y4, y5, y6, y7, y8, y9, rfl⟩, by rw [Nat.succ_mul]; exact b⟩)
  have bk : BankOk [1, 1] 1 0 := ⟨by simp, by simp, by simp, by omega, by omega⟩
  have ow := ev_owner_ok bk (pu := 1) (o := 5) (by simp) (by omega) h2
  obtain ⟨⟨_, _, _, _, hp, _⟩, _, _⟩ := tp2
  have is : isiO (isiC CLS "PurseError") (.ref p) h2 = some (.d (.bool false)) := by simp [isiO, isiC, typW, hp, basics, bO]
  refine ⟨h2, ?_⟩
  have q1 : lw1 [some x, none, none, none, none, none, none, none, none, none, none, none] h = .nx [some x, some (.ref p), none, none, none, none, none, none, none, none, none, none] h1 := by simp [lw1, fx, e1]
  have q2 : lw2 [some x, some (.ref p), none, none, none, none, none, none, none, none, none, none] h1 = .nx [some x, some (.ref p), x2, x3, x4, x5, x6, x7, x8, x9, none, none] h2 := by
    unfold lw2
    have mi : minO [.d (.int ns.length), .d (.int 12)] h1 = some (.d (.int (if (12 : Int) < ns.length then 12 else ns.length))) := rfl
    rw [ev_for, ev_range1]
    have k : (eOp addO (eC (.int 6)) (eApp minO (aCons (eApp lenO (aCons (eVar 0) aNil)) (aCons (eC (.int 12)) aNil)))) [some x, some (.ref p), none, none, none, none, none, none, none, none, none, none] h1 = .ok (.d (.int m)) h1 := by
      simp only [ev_op, ev_c, out_ok, ev_app, ev_cons, ev_var, List.getElem?_cons_zero, ev_nil, ln, ofOpt_some, mi, add_ev, em]
    rw [k]
    simp only [out_ok]
    rw [if_pos ⟨by omega, by omega⟩]
    exact e2
  have q3 : lw3 [some x, some (.ref p), x2, x3, x4, x5, x6, x7, x8, x9, none, none] h2 = .rt (.d (.bool true)) h2 := by
    have ow' : f_owner_of [.d (.tuple [.tuple [.int 1, .int 1], .int 1, .int 0]), .d (.int 1), .d (.int 5)] h2 = .ok (.d (.tuple [.str (Str.ofString "owner"), .int 11])) h2 := ow
    have ok : ck 1 (.tuple [.str (Str.ofString "owner"), .int 11]) = true := by rw [ck_tup]; simp [ck_owner, ck_int]
    have eq : eqO (.d (.tuple [.str (Str.ofString "owner"), .int 11])) (.d (.tuple [.str (Str.ofString "owner"), .int 11])) h2 = some (.d (.bool true)) := by
      rw [eqD_ev _ _ _ (ck_okD ok (by omega)) (ck_okD ok (by omega)), (ck_eqv 1 _ _ ok 1 ok).mpr rfl]
    simp [lw3, ow', eq, is]
  unfold f_law mkFnL
  rw [b_lw_eq]
  simp only [List.map, List.length, List.replicate, List.cons_append, List.nil_append, Nat.reduceSub, Nat.reduceAdd]
  simp only [ev_sSeq, q1, q2, q3]
  rfl
end Q

set_option Elab.async false
set_option maxRecDepth 100000
set_option linter.all false
open PySem PySem.W PyProof.Rows
set_option maxHeartbeats 0 in
theorem PySem.Challenge.cw_pursespassed_k19_whole_seals_of_several_holds : PySem.Challenge.rw_pursespassed_k19_whole_seals_of_several.Holds := by
  w_on; o_law; k_head; (case hw => w_witness2)
  k_fill
  refine Q.walk_X (l := PySem.Challenge.rw_pursespassed_k19_whole_seals_of_several) (n := 63) (k := Q.lawLevel) (K := PySem.Challenge.cw_pursespassed_k19_whole_seals_of_several_holds.heap_39) (x := "script") rfl (by decide) rfl ⟨rfl, by decide, by decide⟩ (fun w h Y => km_in_of Y) ?F
  case F =>
    intro w mg fa h XP Y KX G hmg
    have T : Q.Txt Q.txt (PySem.Challenge.cw_pursespassed_k19_whole_seals_of_several_holds.heap_39 w.params) mg h := ⟨KX, G, by show He.obsE Q.txt.fa Q.txt.fn (PySem.Challenge.cw_pursespassed_k19_whole_seals_of_several_holds.heap_39 w.params) = He.valE Q.txt.fn; kernel_rfl, by kernel_rfl⟩
    have L : Q.Ints mg Q.intL := fun p hp => by
      simp only [Q.intL, List.mem_cons, List.not_mem_nil, or_false] at hp
      have s := XP
      rcases hp with rfl <;> exact Q.ints_of XP (by simp)
    have e : fa = He.ga (PySem.Challenge.cw_pursespassed_k19_whole_seals_of_several_holds.heap_39 w.params) "law" := by
      have q := hmg.symm.trans (Q.glo_law T)
      exact PySem.Value.ref.inj (Option.some.inj q)
    subst e
    exact Q.law_at T Y.2 (by kernel_rfl) (Q.end_law T L) fun ns hl hz h x hi => Q.law19 ns hl h x hi
