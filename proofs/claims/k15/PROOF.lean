import PyProof.Rows.All
import Wide.All
import OpenK.AllK
import Wide.FinOn
import HandS.ForMost
import HandS.ForExc
import HandS.Lambda
import HandS.ExcValue
import HandS.Deep
import HandS.IsInst
import HandS.Flow
import HandS.TupAny
import HandS.Wide
import HandS.EndTab
import KE.KeyNested
import HandS.Zip
import HandS.CallSlots
import KE.DataEq
import HandS.TupLe
import HandS.More
import HandS.ExcIs
import HandS.Codes
import HandS.Style
import HandS.Words
import HandS.HeadHook1
import HandS.EndBits
import Wide.Loose
import PySem.Challenge.RW_pursespassed_k15_whole_names_contents_an
set_option Elab.async false
set_option maxRecDepth 100000
set_option linter.all false
set_option autoImplicit false
/-! QA: the values and the heap of the evaluator, how they stand in HandS' V and Hp, the judgements. -/
namespace Q
open PySem PySem.Spec PyProof.Rows L2 LamX

/-- a value: data (tuples and frozen lists by value), an object of the abstract heap, a caught exception, a closure -/
inductive W where
  | d (x : PyData)
  | ref (i : Nat)
  | exc (c : String) (fs : List (String × PyData))
  | clo (k : Nat)
  | clos (ks : List Nat)

inductive AO where
  | lst (ws : List W)
  | dct (kvs : List (PyData × W))
  | ins (c : String) (fs : List (String × W))

structure AH where
  n : Nat
  f : Nat → Option AO

def AH.set (h : AH) (i : Nat) (o : AO) : AH := ⟨h.n, fun j => if j = i then some o else h.f j⟩
def AH.new (h : AH) (o : AO) : AH := ⟨h.n + 1, fun j => if j = h.n then some o else h.f j⟩

inductive Out (α : Type) where
  | ok (a : α) (h : AH)
  | err (c : String) (fs : List (String × PyData)) (h : AH)
  | bad

def Out.bind {α β : Type} (o : Out α) (k : α → AH → Out β) : Out β := match o with
  | .ok a h => k a h
  | .err c fs h => .err c fs h
  | .bad => .bad
def Out.to {α : Type} (o : Out α) (P : α → AH → Prop) (R : String → List (String × PyData) → AH → Prop) : Prop := match o with
  | .ok a h => P a h
  | .err c fs h => R c fs h
  | .bad => False
def Out.ofOpt {α : Type} (o : Option α) (h : AH) : Out α := match o with
  | some a => .ok a h
  | none => .bad
theorem to_bind {α β : Type} {o : Out α} {k : α → AH → Out β} {P R} : (o.bind k).to P R = o.to (fun a h => (k a h).to P R) R := by
  cases o <;> rfl
theorem Out.to_mono {α : Type} {o : Out α} {P P' : α → AH → Prop} {R R'} (x : o.to P R) (h1 : ∀ a h, P a h → P' a h) (h2 : ∀ c fs h, R c fs h → R' c fs h) : o.to P' R' := by
  cases o with
  | ok a h => exact h1 a h x
  | err c fs h => exact h2 c fs h x
  | bad => exact x
theorem to_ofOpt {α : Type} {o : Option α} {h : AH} {P : α → AH → Prop} {R} (x : (Out.ofOpt o h).to P R) : ∃ a, o = some a ∧ P a h := by
  cases o with
  | none => exact False.elim x
  | some a => exact ⟨a, rfl, x⟩

/-! ### data in the abstract heap -/
/-- a list that nobody changes any more -/
def SqF (K : PySem.W.Frag) (H : Hp) (a : Addr) (xs : List V) : Prop :=
  (∃ o, H a = some (.frz o (.lst xs))) ∨ ((∀ ys, H a ≠ some (.lst ys)) ∧ SqL K H a xs)
mutual
inductive RepD (K : PySem.W.Frag) (H : Hp) : V → PyData → Prop
  | non : RepD K H .non .none
  | bl (b : Bool) : RepD K H (.bl b) (.bool b)
  | int (i : Int) : RepD K H (.int i) (.int i)
  | str (x : Str) : RepD K H (.str x) (.str x)
  | lst {a : Addr} {o : Obj} {xs : List V} {ds : List PyData} : H a = some (.frz o (.lst xs)) → RepDs K H xs ds → RepD K H (.ref a) (.list ds)
  | tup {a : Addr} {xs : List V} {ds : List PyData} : SqT K H a xs → RepDs K H xs ds → RepD K H (.ref a) (.tuple ds)
  | dct {a : Addr} {o : Obj} : H a = some (.frz o (.dK [])) → RepD K H (.ref a) (.dict [])
inductive RepDs (K : PySem.W.Frag) (H : Hp) : List V → List PyData → Prop
  | nil : RepDs K H [] []
  | cons {v : V} {vs : List V} {d : PyData} {ds : List PyData} : RepD K H v d → RepDs K H vs ds → RepDs K H (v :: vs) (d :: ds)
end
/-- what stands for good stays -/
structure Stb (H H' : Hp) : Prop where
  tup : ∀ b xs, H b = some (.tup xs) → H' b = some (.tup xs)
  frz : ∀ b o u, H b = some (.frz o u) → H' b = some (.frz o u)
  cod : ∀ b q, H b = some (CodeO b q) → H' b = some (CodeO b q)
theorem Stb.refl (H : Hp) : Stb H H := ⟨fun _ _ h => h, fun _ _ _ h => h, fun _ _ h => h⟩
theorem Stb.trans {H H1 H2 : Hp} (a : Stb H H1) (b : Stb H1 H2) : Stb H H2 := ⟨fun c xs h => b.1 c xs (a.1 c xs h), fun c o u h => b.2 c o u (a.2 c o u h), fun c q h => b.3 c q (a.3 c q h)⟩
theorem sqT_mono {K : PySem.W.Frag} {H H' : Hp} {a : Addr} {xs : List V} (s : Stb H H') (h : SqT K H a xs) : SqT K H' a xs := by
  rcases h with (h | ⟨o, h⟩) | h
  · exact .inl (.inl (s.1 _ _ h))
  · exact .inl (.inr ⟨o, s.2 _ _ _ h⟩)
  · exact .inr h
mutual
theorem RepD.mono {K : PySem.W.Frag} {H H' : Hp} (s : Stb H H') : ∀ (d : PyData) (v : V), RepD K H v d → RepD K H' v d
  | .none, _, r => by cases r; exact .non
  | .bool b, _, r => by cases r; exact .bl b
  | .int i, _, r => by cases r; exact .int i
  | .str x, _, r => by cases r; exact .str x
  | .list ds, _, r => by
    cases r with
    | lst h1 h2 => exact .lst (s.2 _ _ _ h1) (RepDs.mono s ds _ h2)
  | .tuple ds, _, r => by
    cases r with
    | tup h1 h2 => exact .tup (sqT_mono s h1) (RepDs.mono s ds _ h2)
  | .dict kvs, _, r => by
    cases r with
    | dct h1 => exact .dct (s.2 _ _ _ h1)
theorem RepDs.mono {K : PySem.W.Frag} {H H' : Hp} (s : Stb H H') : ∀ (ds : List PyData) (vs : List V), RepDs K H vs ds → RepDs K H' vs ds
  | [], _, r => by cases r; exact .nil
  | d :: ds, _, r => by
    cases r with
    | cons h1 h2 => exact .cons (RepD.mono s d _ h1) (RepDs.mono s ds _ h2)
end
theorem RepDs.length {K : PySem.W.Frag} {H : Hp} : ∀ {ds : List PyData} {vs : List V}, RepDs K H vs ds → vs.length = ds.length
  | [], _, r => by cases r; rfl
  | d :: ds, _, r => by
    cases r with
    | cons h1 h2 => simp [RepDs.length h2]
theorem RepDs.get {K : PySem.W.Frag} {H : Hp} : ∀ {ds : List PyData} {vs : List V} {i : Nat} {d : PyData}, RepDs K H vs ds → ds[i]? = some d → ∃ v, vs[i]? = some v ∧ RepD K H v d
  | d :: ds, _, 0, _, r, e => by
    cases r with
    | cons h1 h2 => simp at e; subst e; exact ⟨_, rfl, h1⟩
  | d :: ds, _, i + 1, x, r, e => by
    cases r with
    | cons h1 h2 =>
      obtain ⟨v, e1, r1⟩ := RepDs.get (i := i) h2 (by simpa using e)
      exact ⟨v, by simpa using e1, r1⟩
  | [], _, _, _, r, e => by simp at e
theorem RepDs.append {K : PySem.W.Frag} {H : Hp} : ∀ {xs : List V} {ds : List PyData} {ys : List V} {es : List PyData}, RepDs K H xs ds → RepDs K H ys es → RepDs K H (xs ++ ys) (ds ++ es)
  | _, _, _, _, .nil, r => r
  | _, _, _, _, .cons h t, r => .cons h (RepDs.append t r)
mutual
theorem RepD.dp {K : PySem.W.Frag} {H : Hp} : ∀ (d : PyData) (v : V), RepD K H v d → d.canLay0 = true → Dp K H v d
  | .none, _, r, _ => by cases r; exact .non
  | .bool b, _, r, _ => by cases r; exact .bl b
  | .int i, _, r, _ => by cases r; exact .int i
  | .str x, _, r, _ => by cases r; exact .str x
  | .list ds, _, r, c => by
    cases r with
    | lst h1 h2 => exact .lst (.inl (.inr ⟨_, h1⟩)) (RepDs.dp ds _ h2 (by simpa [PyData.canLay0] using c))
  | .tuple ds, _, r, c => by
    cases r with
    | tup h1 h2 => exact .tup h1 (RepDs.dp ds _ h2 (by simpa [PyData.canLay0] using c))
  | .dict kvs, _, r, c => by simp [PyData.canLay0] at c
theorem RepDs.dp {K : PySem.W.Frag} {H : Hp} : ∀ (ds : List PyData) (vs : List V), RepDs K H vs ds → PyData.canLayAll0 ds = true → DpAll K H vs ds
  | [], _, r, _ => by cases r; exact .nil
  | d :: ds, _, r, c => by
    cases r with
    | cons h1 h2 =>
      simp only [PyData.canLayAll0, Bool.and_eq_true] at c
      exact .cons (RepD.dp d _ h1 c.1) (RepDs.dp ds _ h2 c.2)
end
end Q

set_option Elab.async false
set_option maxRecDepth 100000
set_option linter.all false
set_option autoImplicit false
namespace Q
open PySem PySem.Spec PyProof.Rows L2 LamX

abbrev Io := Nat → Option Addr
/-- the two that values need -/
structure Ex0 (ι : Io) (H : Hp) (ι' : Io) (H' : Hp) : Prop where
  up : ∀ i a, ι i = some a → ι' i = some a
  st : Stb H H'
/-- what closures stand for -/
structure Clo where
  p : Nat → Io → Hp → V → Prop
  mono : ∀ k ι H ι' H' v, Ex0 ι H ι' H' → p k ι H v → p k ι' H' v
  non : ∀ k ι H v, p k ι H v → v ≠ .non
def Clo.no : Clo := ⟨fun _ _ _ _ => False, fun _ _ _ _ _ _ _ h => h, fun _ _ _ _ h => h.elim⟩
/-- the ground: the written part, the module's names, the tables of code objects, the closures of the frame -/
structure Gd where
  w : World
  K : PySem.W.Frag
  mg : Str → Option Value
  tabs : List (Addr × Str)
  cl : Clo
def Gd.bare (G : Gd) : Gd := { G with cl := Clo.no }
theorem bare_bare (G : Gd) : G.bare.bare = G.bare := rfl

/-- a caught exception -/
def RepX (G : Gd) (H : Hp) (c : String) (fs : List (String × PyData)) (v : V) : Prop :=
  ∃ (a C : Addr) (o : Obj) (vs : Array Value), v = .ref a ∧ G.mg (Str.ofString c) = some (.ref C) ∧ H a = some (.frz o (.ext fun _ => True)) ∧ o.cls = .ref C ∧ o.data = .fields vs ∧ o.dict = none ∧ fs = []
def RepW (G : Gd) (ι : Io) (H : Hp) : W → V → Prop
  | .d x, v => RepD G.K H v x
  | .ref i, v => ∃ a, ι i = some a ∧ v = .ref a
  | .exc c fs, v => RepX G H c fs v
  | .clo k, v => G.cl.p k ι H v
  | .clos ks, v => ∃ a o vs, v = .ref a ∧ H a = some (.frz o (.lst vs)) ∧ Paired (fun k v => G.cl.p k ι H v) ks vs
/-- something other than a table of code objects is tracked there -/
def Trk (H : Hp) (a : Addr) : Prop := ∃ o, H a = some o ∧ ∀ ps, o ≠ .tbl ps
theorem Trk.no {H : Hp} {a : Addr} (h : H a = none) : ¬ Trk H a := fun ⟨o, e, _⟩ => by
  rw [h] at e
  cases e
/-- the address map grows, what stands for good stays, and so does all that the map doesn't tell of but the tables -/
structure Ext (ι : Io) (H : Hp) (ι' : Io) (H' : Hp) : Prop where
  up : ∀ i a, ι i = some a → ι' i = some a
  st : Stb H H'
  fr : ∀ b o, H b = some o → (∀ i, ι i ≠ some b) → (∀ ps, o ≠ .tbl ps) → H' b = some o
  kp : ∀ b, Trk H b → Trk H' b
  nw : ∀ i a, ι' i = some a → ι i = some a ∨ ¬ Trk H a
theorem Ext.lo {ι ι' : Io} {H H' : Hp} (e : Ext ι H ι' H') : Ex0 ι H ι' H' := ⟨e.up, e.st⟩
theorem Ext.refl {ι : Io} {H : Hp} : Ext ι H ι H := ⟨fun _ _ h => h, Stb.refl H, fun _ _ h _ _ => h, fun _ h => h, fun _ _ h => .inl h⟩
theorem Ext.trans {ι ι1 ι2 : Io} {H H1 H2 : Hp} (a : Ext ι H ι1 H1) (b : Ext ι1 H1 ι2 H2) : Ext ι H ι2 H2 where
  up := fun i c h => b.up i c (a.up i c h)
  st := a.st.trans b.st
  fr := fun c o h n t => b.fr c o (a.fr c o h n t) (fun i z => by
    rcases a.nw i c z with q | q
    · exact n i q
    · exact q ⟨o, h, t⟩) t
  kp := fun c h => b.kp c (a.kp c h)
  nw := fun i c h => by
    rcases b.nw i c h with q | q
    · exact a.nw i c q
    · exact .inr fun z => q (a.kp c z)
theorem paired_mono {α β : Type} {F F' : α → β → Prop} (h : ∀ a b, F a b → F' a b) : ∀ {l : List α} {m : List β}, Paired F l m → Paired F' l m
  | _, _, .nil => .nil
  | _, _, .cons r t => .cons (h _ _ r) (paired_mono h t)
section
variable {G : Gd} {ι ι' : Io} {H H' : Hp} {w : W} {v : V}
theorem RepW.mono0 (e : Ex0 ι H ι' H') (r : RepW G ι H w v) : RepW G ι' H' w v := by
  cases w with
  | d x => exact RepD.mono e.st x v r
  | ref i =>
    obtain ⟨a, h1, h2⟩ := r
    exact ⟨a, e.up i a h1, h2⟩
  | exc c fs =>
    obtain ⟨a, C, o, vs, h1, h2, h3, h4⟩ := r
    exact ⟨a, C, o, vs, h1, h2, e.st.2 _ _ _ h3, h4⟩
  | clo k => exact G.cl.mono k ι H ι' H' v e r
  | clos ks =>
    obtain ⟨a, o, vs, h1, h2, h3⟩ := r
    exact ⟨a, o, vs, h1, e.st.2 _ _ _ h2, paired_mono (fun k v h => G.cl.mono k ι H ι' H' v e h) h3⟩
theorem RepW.mono (e : Ext ι H ι' H') (r : RepW G ι H w v) : RepW G ι' H' w v := r.mono0 e.lo
theorem RepW.up (r : RepW G.bare ι H w v) : RepW G ι H w v := by
  cases w with
  | d x => exact r
  | ref i => exact r
  | exc c fs => exact r
  | clo k => exact False.elim r
  | clos ks =>
    obtain ⟨a, o, vs, h1, h2, h3⟩ := r
    cases h3 with
    | nil => exact ⟨a, o, [], h1, h2, .nil⟩
    | cons p _ => exact False.elim p
/-- no closure in it -/
def W.flat : W → Bool
  | .clo _ => false
  | .clos _ => false
  | _ => true
theorem RepW.down (r : RepW G ι H w v) (f : w.flat = true) : RepW G.bare ι H w v := by
  cases w with
  | d x => exact r
  | ref i => exact r
  | exc c fs => exact r
  | clo k => cases f
  | clos ks => cases f
abbrev RepWs (G : Gd) (ι : Io) (H : Hp) : List W → List V → Prop := Paired (RepW G ι H)
theorem RepWs.mono0 {ws : List W} {vs : List V} (e : Ex0 ι H ι' H') (r : RepWs G ι H ws vs) : RepWs G ι' H' ws vs := paired_mono (fun _ _ h => RepW.mono0 e h) r
theorem RepWs.mono {ws : List W} {vs : List V} (e : Ext ι H ι' H') (r : RepWs G ι H ws vs) : RepWs G ι' H' ws vs := r.mono0 e.lo
theorem RepWs.up {ws : List W} {vs : List V} (r : RepWs G.bare ι H ws vs) : RepWs G ι H ws vs := paired_mono (fun _ _ h => RepW.up h) r
theorem RepWs.down : ∀ {ws : List W} {vs : List V}, RepWs G ι H ws vs → ws.all W.flat = true → RepWs G.bare ι H ws vs
  | _, _, .nil, _ => .nil
  | _, _, .cons r t, f => by
    simp only [List.all_cons, Bool.and_eq_true] at f
    exact .cons (RepW.down r f.1) (RepWs.down t f.2)
end

/-- a raw dict: its entries as they stand -/
def DX (a : Addr) (rs : List DictEntry) : HO := .ext fun h => ∃ o ep, h.get? a = some o ∧ o.ExactDict ∧ o.data = .dict rs.toArray ep
mutual
/-- data as a key -/
def keyD : PyData → Option NestedKey
  | .none => some .none
  | .bool b => some (.num (if b = true then 1 else 0))
  | .int i => some (.num i)
  | .str x => some (.text x)
  | .tuple xs => (keyDs xs).map .tup
  | .list _ => none
  | .dict _ => none
def keyDs : List PyData → Option (List NestedKey)
  | [] => some []
  | x :: xs => match keyD x, keyDs xs with
    | some k, some ks => some (k :: ks)
    | _, _ => none
end
/-- an entry of a dict stands for a pair -/
def RepKV (G : Gd) (ι : Io) (H : Hp) (p : PyData × W) (r : DictEntry) : Prop :=
  ∃ (k : NestedKey) (kv vv : V), keyD p.1 = some k ∧ k.depth ≤ 8 ∧ r.hash = k.hash G.w ∧ RepD G.K H kv p.1 ∧ RelV kv r.key ∧ RepW G.bare ι H p.2 vv ∧ RelV vv r.val
/-- an object of the abstract heap stands at a -/
def RepO (G : Gd) (ι : Io) (H : Hp) (a : Addr) : AO → Prop
  | .lst ws => ∃ vs, H a = some (.lst vs) ∧ RepWs G.bare ι H ws vs
  | .ins c fs => ∃ C dx fvs, G.mg (Str.ofString c) = some (.ref C) ∧ H a = some (.ins C dx fvs) ∧ Paired (fun (p : String × W) (q : Str × V) => Str.ofString p.1 = q.1 ∧ RepW G.bare ι H p.2 q.2) fs fvs
  | .dct kvs => (a == sysModules) = false ∧ kvs.length ≤ sizeLine ∧ (kvs.map fun p => keyD p.1).Nodup ∧ ∃ rs, H a = some (DX a rs) ∧ Paired (RepKV G ι H) kvs rs
structure RlH (G : Gd) (ι : Io) (h : AH) (H : Hp) : Prop where
  ob : ∀ i o, h.f i = some o → ∃ a, ι i = some a ∧ RepO G ι H a o
  lt : ∀ i a, ι i = some a → i < h.n
  inj : ∀ i j a, ι i = some a → ι j = some a → i = j
  trk : ∀ i a, ι i = some a → Trk H a
  tab : Tabs G.tabs H
abbrev Env' := List (Option W)
structure RlE (G : Gd) (ι : Io) (ρ : Env') (σ : L2.St) (H : Hp) : Prop where
  len : ρ.length = σ.length
  get : ∀ (i : Nat) (w : W), ρ[i]? = some (some w) → ∃ v, σ[i]? = some (some v) ∧ RepW G ι H w v
section
variable {G : Gd} {ι ι' : Io} {h h' : AH} {H H' : Hp} {ρ : Env'} {σ : L2.St}
theorem RlE.mono0 (e : Ex0 ι H ι' H') (r : RlE G ι ρ σ H) : RlE G ι' ρ σ H' := ⟨r.len, fun i w hw => by
  obtain ⟨v, h1, h2⟩ := r.get i w hw
  exact ⟨v, h1, h2.mono0 e⟩⟩
theorem RlE.mono (e : Ext ι H ι' H') (r : RlE G ι ρ σ H) : RlE G ι' ρ σ H' := r.mono0 e.lo
theorem RlE.set {i : Nat} {x : W} {v : V} (r : RlE G ι ρ σ H) (rv : RepW G ι H x v) : RlE G ι (ρ.set i (some x)) (σ.set i (some v)) H := ⟨by simp [r.len], fun j w hw => by
  by_cases hj : i = j
  · subst hj
    by_cases hi : i < ρ.length
    · rw [List.getElem?_set_self hi] at hw
      cases hw
      exact ⟨v, by rw [List.getElem?_set_self (by rw [← r.len]; exact hi)], rv⟩
    · rw [List.getElem?_eq_none (by simpa using hi)] at hw
      cases hw
  · rw [List.getElem?_set_ne hj] at hw
    obtain ⟨u, h1, h2⟩ := r.get j w hw
    exact ⟨u, by rw [List.getElem?_set_ne hj]; exact h1, h2⟩⟩
theorem RlE.unset {i : Nat} (r : RlE G ι ρ σ H) : RlE G ι (ρ.set i none) (σ.set i none) H := ⟨by simp [r.len], fun j w hw => by
  by_cases hj : i = j
  · subst hj
    by_cases hi : i < ρ.length
    · rw [List.getElem?_set_self hi] at hw
      cases hw
    · rw [List.getElem?_eq_none (by simpa using hi)] at hw
      cases hw
  · rw [List.getElem?_set_ne hj] at hw
    obtain ⟨u, h1, h2⟩ := r.get j w hw
    exact ⟨u, by rw [List.getElem?_set_ne hj]; exact h1, h2⟩⟩
theorem paired_fs_mono {F F' : W → V → Prop} (h : ∀ a b, F a b → F' a b) : ∀ {fs : List (String × W)} {fvs : List (Str × V)}, Paired (fun (p : String × W) (q : Str × V) => Str.ofString p.1 = q.1 ∧ F p.2 q.2) fs fvs → Paired (fun (p : String × W) (q : Str × V) => Str.ofString p.1 = q.1 ∧ F' p.2 q.2) fs fvs
  | _, _, .nil => .nil
  | _, _, .cons r t => .cons ⟨r.1, h _ _ r.2⟩ (paired_fs_mono h t)
theorem RepKV.mono0 {p : PyData × W} {r : DictEntry} (e : Ex0 ι H ι' H') (x : RepKV G ι H p r) : RepKV G ι' H' p r := by
  obtain ⟨k, kv, vv, h1, h2, h3, h4, h5, h6, h7⟩ := x
  exact ⟨k, kv, vv, h1, h2, h3, RepD.mono e.st _ _ h4, h5, h6.mono0 e, h7⟩
/-- an object stays as long as its own place does -/
theorem RepO.mono0 {a : Addr} {o : AO} (e : Ex0 ι H ι' H') (k : H' a = H a) (x : RepO G ι H a o) : RepO G ι' H' a o := by
  cases o with
  | lst ws =>
    obtain ⟨vs, h1, h2⟩ := x
    exact ⟨vs, by rw [k]; exact h1, h2.mono0 e⟩
  | ins c fs =>
    obtain ⟨C, dx, fvs, h1, h2, h3⟩ := x
    exact ⟨C, dx, fvs, h1, by rw [k]; exact h2, paired_fs_mono (fun _ _ r => r.mono0 e) h3⟩
  | dct kvs =>
    obtain ⟨h1, h2, h3, rs, h4, h5⟩ := x
    exact ⟨h1, h2, h3, rs, by rw [k]; exact h4, paired_mono (fun _ _ r => r.mono0 e) h5⟩
theorem RepO.mono {a : Addr} {o : AO} (e : Ext ι H ι' H') (k : H' a = H a) (x : RepO G ι H a o) : RepO G ι' H' a o := x.mono0 e.lo k
theorem Stb.fresh {p : Addr} {o : HO} (n : H p = none) : Stb H (upd H p o) :=
  ⟨fun b xs q => by rw [upd_ne (ne_of_none q n)]; exact q, fun b o u q => by rw [upd_ne (ne_of_none q n)]; exact q, fun b u q => by rw [upd_ne (ne_of_none q n)]; exact q⟩
theorem Tabs.fresh {T : List (Addr × Str)} {p : Addr} {o : HO} (t : Tabs T H) (n : H p = none) : Tabs T (upd H p o) := t.ext fun b u q => by rw [upd_ne (ne_of_none q n)]; exact q
theorem Ext.fresh {p : Addr} {o : HO} (n : H p = none) : Ext ι H ι (upd H p o) := ⟨fun _ _ h => h, Stb.fresh n, fun b u q _ _ => by rw [upd_ne (ne_of_none q n)]; exact q, fun b ⟨u, q, t⟩ => ⟨u, by rw [upd_ne (ne_of_none q n)]; exact q, t⟩, fun _ _ h => .inl h⟩
theorem Trk.ne {a p : Addr} (t : Trk H a) (n : H p = none) : a ≠ p := fun z => Trk.no n (by rw [← z]; exact t)
theorem Trk.upd_ne {a p : Addr} {o : HO} (t : Trk H a) (ne : a ≠ p) : Trk (upd H p o) a := by
  obtain ⟨u, q, k⟩ := t
  exact ⟨u, by rw [L2.upd_ne ne]; exact q, k⟩
/-- something new is laid that the abstract heap doesn't tell of -/
theorem RlH.fresh {p : Addr} {o : HO} (r : RlH G ι h H) (n : H p = none) : RlH G ι h (upd H p o) where
  ob := fun i o' hi => by
    obtain ⟨a, h1, h2⟩ := r.ob i o' hi
    exact ⟨a, h1, h2.mono (Ext.fresh n) (upd_ne ((r.trk i a h1).ne n))⟩
  lt := r.lt
  inj := r.inj
  trk := fun i a hi => (r.trk i a hi).upd_ne ((r.trk i a hi).ne n)
  tab := Tabs.fresh r.tab n
/-- a new object of the abstract heap -/
def Io.new (ι : Io) (n : Nat) (p : Addr) : Io := fun j => if j = n then some p else ι j
theorem Io.new_same {n : Nat} {p : Addr} : Io.new ι n p n = some p := by simp [Io.new]
theorem RlH.newExt {p : Addr} {o : HO} (r : RlH G ι h H) (n : H p = none) : Ext ι H (Io.new ι h.n p) (upd H p o) where
  up := fun i a hi => by
    have := r.lt i a hi
    unfold Io.new
    rw [if_neg (by omega)]
    exact hi
  st := Stb.fresh n
  fr := (Ext.fresh (ι := ι) n).fr
  kp := (Ext.fresh (ι := ι) n).kp
  nw := fun i a hi => by
    unfold Io.new at hi
    by_cases e : i = h.n
    · rw [if_pos e] at hi
      cases hi
      exact .inr (Trk.no n)
    · rw [if_neg e] at hi
      exact .inl hi
/-- neither a tuple nor frozen nor a table nor a code object -/
structure Loose (H : Hp) (a : Addr) : Prop where
  tup : ∀ xs, H a ≠ some (.tup xs)
  frz : ∀ b u, H a ≠ some (.frz b u)
  tbl : ∀ ps, H a ≠ some (.tbl ps)
  cod : ∀ q, H a ≠ some (CodeO a q)
theorem Loose.fresh {a : Addr} (n : H a = none) : Loose H a := ⟨fun _ z => (by rw [n] at z; cases z), fun _ _ z => (by rw [n] at z; cases z), fun _ z => (by rw [n] at z; cases z), fun _ z => by rw [n] at z; cases z⟩
theorem Stb.write {a : Addr} {o : HO} (l : Loose H a) : Stb H (upd H a o) :=
  ⟨fun b xs q => by rw [upd_ne (fun z => l.tup xs (by rw [← z]; exact q))]; exact q, fun b o u q => by rw [upd_ne (fun z => l.frz o u (by rw [← z]; exact q))]; exact q, fun b u q => by rw [upd_ne (fun z => l.cod u (by rw [z] at q; exact q))]; exact q⟩
theorem Tabs.write {T : List (Addr × Str)} {a : Addr} {o : HO} (t : Tabs T H) (l : Loose H a) : Tabs T (upd H a o) := fun p hp => by
  obtain ⟨ps, h1, h2, h3⟩ := t p hp
  refine ⟨ps, by rw [upd_ne (fun z => l.tbl ps (by rw [← z]; exact h1))]; exact h1, h2, fun pos cv hcv => ?_⟩
  obtain ⟨c, e1, e2⟩ := h3 pos cv hcv
  exact ⟨c, e1, by rw [upd_ne (fun z => l.cod p.2 (by rw [z] at e2; exact e2))]; exact e2⟩
theorem Trk.upd {a b : Addr} {o : HO} (t : Trk H b) (no : ∀ ps, o ≠ .tbl ps) : Trk (upd H a o) b := by
  by_cases z : b = a
  · subst z
    exact ⟨o, upd_same, no⟩
  · exact t.upd_ne z
theorem Ext.write {i : Nat} {a : Addr} {o : HO} (hi : ι i = some a) (l : Loose H a) (no : ∀ ps, o ≠ .tbl ps := by intro _ z; cases z) : Ext ι H ι (upd H a o) := ⟨fun _ _ h => h, Stb.write l, fun b u q n _ => by rw [upd_ne (fun z => n i (by rw [z]; exact hi))]; exact q, fun b q => q.upd no, fun _ _ h => .inl h⟩
/-- the object i is changed -/
theorem RlH.write {i : Nat} {a : Addr} {u : HO} {o : AO} (r : RlH G ι h H) (hi : ι i = some a) (l : Loose H a) (ro : RepO G ι (upd H a u) a o) (no : ∀ ps, u ≠ .tbl ps := by intro _ z; cases z) : RlH G ι (h.set i o) (upd H a u) where
  ob := fun j o' hj => by
    by_cases e : j = i
    · subst e
      simp only [AH.set, if_true] at hj
      cases hj
      exact ⟨a, hi, ro⟩
    · simp only [AH.set, if_neg e] at hj
      obtain ⟨b, h1, h2⟩ := r.ob j o' hj
      exact ⟨b, h1, h2.mono (Ext.write hi l no) (upd_ne fun z => e (r.inj j i a (z ▸ h1) hi))⟩
  lt := r.lt
  inj := r.inj
  trk := fun j b hj => (r.trk j b hj).upd no
  tab := Tabs.write r.tab l
/-- something is changed that the abstract heap doesn't tell of -/
theorem Ex0.off {a : Addr} {o : HO} (l : Loose H a) : Ex0 ι H ι (upd H a o) := ⟨fun _ _ h => h, Stb.write l⟩
theorem RlH.off {a : Addr} {o : HO} (r : RlH G ι h H) (n : ∀ j, ι j ≠ some a) (l : Loose H a) : RlH G ι h (upd H a o) where
  ob := fun j o' hj => by
    obtain ⟨b, h1, h2⟩ := r.ob j o' hj
    exact ⟨b, h1, h2.mono0 (Ex0.off l) (upd_ne fun z => n j (by rw [← z]; exact h1))⟩
  lt := r.lt
  inj := r.inj
  trk := fun j b hj => (r.trk j b hj).upd_ne fun z => n j (by rw [← z]; exact hj)
  tab := Tabs.write r.tab l
/-- something that the abstract heap didn't tell of comes into it -/
theorem RlH.into {p : Addr} {u : HO} {o : AO} (r : RlH G ι h H) (nj : ∀ j, ι j ≠ some p) (l : Loose H p) (no : ∀ ps, u ≠ .tbl ps) (ro : RepO G (Io.new ι h.n p) (upd H p u) p o) : Ex0 ι H (Io.new ι h.n p) (upd H p u) ∧ RlH G (Io.new ι h.n p) (h.new o) (upd H p u) := by
  have x : Ex0 ι H (Io.new ι h.n p) (upd H p u) := ⟨fun i a hi => by
    have := r.lt i a hi
    unfold Io.new
    rw [if_neg (by omega)]
    exact hi, Stb.write l⟩
  refine ⟨x, ⟨fun i o' hi => ?_, fun i a hi => ?_, fun i j a hi hj => ?_, fun i a hi => ?_, Tabs.write r.tab l⟩⟩
  · by_cases e : i = h.n
    · subst e
      simp only [AH.new, if_true] at hi
      cases hi
      exact ⟨p, Io.new_same, ro⟩
    · simp only [AH.new, if_neg e] at hi
      obtain ⟨a, h1, h2⟩ := r.ob i o' hi
      exact ⟨a, x.up i a h1, h2.mono0 x (upd_ne fun z => nj i (by rw [← z]; exact h1))⟩
  · show i < h.n + 1
    by_cases e : i = h.n
    · omega
    · unfold Io.new at hi
      rw [if_neg e] at hi
      have := r.lt i a hi
      omega
  · unfold Io.new at hi hj
    by_cases e : i = h.n <;> by_cases e' : j = h.n
    · omega
    · rw [if_pos e] at hi
      rw [if_neg e'] at hj
      cases hi
      exact absurd hj (nj j)
    · rw [if_neg e] at hi
      rw [if_pos e'] at hj
      cases hj
      exact absurd hi (nj i)
    · rw [if_neg e] at hi
      rw [if_neg e'] at hj
      exact r.inj i j a hi hj
  · unfold Io.new at hi
    by_cases e : i = h.n
    · rw [if_pos e] at hi
      cases hi
      exact ⟨u, upd_same, no⟩
    · rw [if_neg e] at hi
      exact (r.trk i a hi).upd no
theorem RlH.nj {p : Addr} (r : RlH G ι h H) (n : H p = none) : ∀ j, ι j ≠ some p := fun j z => Trk.no n (r.trk j p z)
theorem RlH.new {p : Addr} {u : HO} {o : AO} (r : RlH G ι h H) (n : H p = none) (ro : RepO G (Io.new ι h.n p) (upd H p u) p o) (no : ∀ ps, u ≠ .tbl ps := by intro _ z; cases z) : RlH G (Io.new ι h.n p) (h.new o) (upd H p u) := (r.into (r.nj n) (Loose.fresh n) no ro).2
theorem loose_lst {a : Addr} {xs : List V} (e : H a = some (.lst xs)) : Loose H a := ⟨fun _ z => (by rw [e] at z; cases z), fun _ _ z => (by rw [e] at z; cases z), fun _ z => (by rw [e] at z; cases z), fun _ z => by rw [e] at z; unfold CodeO at z; cases z⟩
/-- .. and it was new -/
theorem Ext.after {a : Addr} {o : HO} (x : Ext ι H ι' H') (n : ¬ Trk H a) (l : Loose H' a) (no : ∀ ps, o ≠ .tbl ps := by intro _ z; cases z) : Ext ι H ι' (upd H' a o) := ⟨x.up, x.st.trans (Stb.write l), fun b u q m t => by rw [upd_ne (fun z => n (by rw [← z]; exact ⟨u, q, t⟩))]; exact x.fr b u q m t, fun b q => (x.kp b q).upd no, x.nw⟩
theorem Ext.into {p : Addr} {u : HO} (x : Ext ι H ι' H') (lt : ∀ i a, ι' i = some a → i < h'.n) (n : ¬ Trk H p) (l : Loose H' p) (no : ∀ ps, u ≠ .tbl ps := by intro _ z; cases z) : Ext ι H (Io.new ι' h'.n p) (upd H' p u) where
  up := fun i a hi => by
    have hi := x.up i a hi
    have := lt i a hi
    unfold Io.new
    rw [if_neg (by omega)]
    exact hi
  st := x.st.trans (Stb.write l)
  fr := (x.after n l no).fr
  kp := (x.after n l no).kp
  nw := fun i a hi => by
    unfold Io.new at hi
    by_cases e : i = h'.n
    · rw [if_pos e] at hi
      cases hi
      exact .inr n
    · rw [if_neg e] at hi
      exact x.nw i a hi
theorem Ext.none_back {a : Addr} (x : Ext ι H ι' H') (n : H' a = none) : ¬ Trk H a := fun z => Trk.no n (x.kp a z)
end
end Q

set_option Elab.async false
set_option maxRecDepth 100000
set_option linter.all false
set_option autoImplicit false
namespace Q
open PySem PySem.Spec PyProof.Rows L2 LamX

abbrev SemE := Env' → AH → Out W
abbrev SemT := Env' → AH → Out Bool
abbrev SemA := Env' → AH → Out (List W)
inductive OutS where
  | nx (ρ : Env') (h : AH)
  | rt (x : W) (h : AH)
  | bk (ρ : Env') (h : AH)
  | ct (ρ : Env') (h : AH)
  | err (c : String) (fs : List (String × PyData)) (h : AH)
  | bad
abbrev SemS := Env' → AH → OutS

def okP (G : Gd) (ι : Io) (H : Hp) (Q : VK) : W → AH → Prop := fun x h' => ∀ (ι' : Io) (v : V) (H' : Hp), Ext ι H ι' H' → RlH G ι' h' H' → RepW G ι' H' x v → Q v H'
def okT (G : Gd) (ι : Io) (H : Hp) (Q : Bool → Hp → Prop) : Bool → AH → Prop := fun b h' => ∀ (ι' : Io) (H' : Hp), Ext ι H ι' H' → RlH G ι' h' H' → Q b H'
def okA (G : Gd) (ι : Io) (H : Hp) (Q : List V → Hp → Prop) : List W → AH → Prop := fun xs h' => ∀ (ι' : Io) (vs : List V) (H' : Hp), Ext ι H ι' H' → RlH G ι' h' H' → RepWs G ι' H' xs vs → Q vs H'
/-- how an exception's own dict stands (for those without attributes: none) -/
def ExD (fs : List (String × PyData)) (d : Option Addr) : Prop := fs = [] ∧ d = none
def erP (G : Gd) (ι : Io) (H : Hp) (E : XK) : String → List (String × PyData) → AH → Prop := fun c fs h' => ∀ (ι' : Io) (H' : Hp) (C : Addr) (d : Option Addr), Ext ι H ι' H' → RlH G ι' h' H' → G.mg (Str.ofString c) = some (.ref C) → ExD fs d → E (.ref C) d H'
section
variable {G : Gd} {ι ι1 : Io} {H H1 : Hp} {h1 : AH}
theorem okP.up {Q : VK} {x : W} (e : Ext ι H ι1 H1) (k : okP G ι H Q x h1) : okP G ι1 H1 Q x h1 := fun ι' v H' e' => k ι' v H' (e.trans e')
theorem okT.up {Q : Bool → Hp → Prop} {x : Bool} (e : Ext ι H ι1 H1) (k : okT G ι H Q x h1) : okT G ι1 H1 Q x h1 := fun ι' H' e' => k ι' H' (e.trans e')
theorem okA.up {Q : List V → Hp → Prop} {x : List W} (e : Ext ι H ι1 H1) (k : okA G ι H Q x h1) : okA G ι1 H1 Q x h1 := fun ι' v H' e' => k ι' v H' (e.trans e')
theorem erP.up {E : XK} {c : String} {fs : List (String × PyData)} (e : Ext ι H ι1 H1) (k : erP G ι H E c fs h1) : erP G ι1 H1 E c fs h1 := fun ι' H' C d e' => k ι' H' C d (e.trans e')
theorem okP.here {Q : VK} {x : W} {v : V} (k : okP G ι H Q x h1) (r : RlH G ι h1 H) (rv : RepW G ι H x v) : Q v H := k ι v H .refl r rv
theorem okT.here {Q : Bool → Hp → Prop} {x : Bool} (k : okT G ι H Q x h1) (r : RlH G ι h1 H) : Q x H := k ι H .refl r
theorem toUpP {Q : VK} {E : XK} {o : Out W} (e : Ext ι H ι1 H1) (k : o.to (okP G ι H Q) (erP G ι H E)) : o.to (okP G ι1 H1 Q) (erP G ι1 H1 E) := Out.to_mono k (fun _ _ z => z.up e) fun _ _ _ z => z.up e
theorem toUpT {Q : Bool → Hp → Prop} {E : XK} {o : Out Bool} (e : Ext ι H ι1 H1) (k : o.to (okT G ι H Q) (erP G ι H E)) : o.to (okT G ι1 H1 Q) (erP G ι1 H1 E) := Out.to_mono k (fun _ _ z => z.up e) fun _ _ _ z => z.up e
theorem toUpA {Q : List V → Hp → Prop} {E : XK} {o : Out (List W)} (e : Ext ι H ι1 H1) (k : o.to (okA G ι H Q) (erP G ι H E)) : o.to (okA G ι1 H1 Q) (erP G ι1 H1 E) := Out.to_mono k (fun _ _ z => z.up e) fun _ _ _ z => z.up e
end
abbrev xk (U : WX) (σ : L2.St) : XK := fun c d H' => U c d σ H'
def rdE (G : Gd) (U : WX) (m : SemE) : TE := fun σ H Q => ∃ (ι : Io) (ρ : Env') (h : AH), RlH G ι h H ∧ RlE G ι ρ σ H ∧ (m ρ h).to (okP G ι H Q) (erP G ι H (xk U σ))
def rdT (G : Gd) (U : WX) (m : SemT) : TT := fun σ H Q => ∃ (ι : Io) (ρ : Env') (h : AH), RlH G ι h H ∧ RlE G ι ρ σ H ∧ (m ρ h).to (okT G ι H Q) (erP G ι H (xk U σ))
def rdA (G : Gd) (U : WX) (m : SemA) : TA := fun σ H Q => ∃ (ι : Io) (ρ : Env') (h : AH), RlH G ι h H ∧ RlE G ι ρ σ H ∧ (m ρ h).to (okA G ι H Q) (erP G ι H (xk U σ))
def stP (G : Gd) (ι : Io) (H : Hp) (U : WX) (D : Ends) : OutS → Prop
  | .nx ρ' h' => ∀ (ι' : Io) (σ' : L2.St) (H' : Hp), Ext ι H ι' H' → RlH G ι' h' H' → RlE G ι' ρ' σ' H' → D.nx σ' H'
  | .rt x h' => ∀ (ι' : Io) (v : V) (H' : Hp), Ext ι H ι' H' → RlH G ι' h' H' → RepW G ι' H' x v → D.rt v H'
  | .bk ρ' h' => ∀ (ι' : Io) (σ' : L2.St) (H' : Hp), Ext ι H ι' H' → RlH G ι' h' H' → RlE G ι' ρ' σ' H' → D.bk σ' H'
  | .ct ρ' h' => ∀ (ι' : Io) (σ' : L2.St) (H' : Hp), Ext ι H ι' H' → RlH G ι' h' H' → RlE G ι' ρ' σ' H' → D.ct σ' H'
  | .err c fs h' => ∀ (ι' : Io) (σ' : L2.St) (H' : Hp) (C : Addr) (d : Option Addr), Ext ι H ι' H' → RlH G ι' h' H' → G.mg (Str.ofString c) = some (.ref C) → ExD fs d → U (.ref C) d σ' H'
  | .bad => False
theorem stP.up {G : Gd} {ι ι1 : Io} {H H1 : Hp} {U : WX} {D : Ends} {o : OutS} (e : Ext ι H ι1 H1) (k : stP G ι H U D o) : stP G ι1 H1 U D o := by
  cases o with
  | nx ρ h => exact fun ι' σ' H' e' => k ι' σ' H' (e.trans e')
  | rt x h => exact fun ι' v H' e' => k ι' v H' (e.trans e')
  | bk ρ h => exact fun ι' σ' H' e' => k ι' σ' H' (e.trans e')
  | ct ρ h => exact fun ι' σ' H' e' => k ι' σ' H' (e.trans e')
  | err c fs h => exact fun ι' σ' H' C d e' => k ι' σ' H' C d (e.trans e')
  | bad => exact k
def rdS (G : Gd) (U : WX) (m : SemS) : TS := fun D σ H => ∃ (ι : Io) (ρ : Env') (h : AH), RlH G ι h H ∧ RlE G ι ρ σ H ∧ stP G ι H U D (m ρ h)
/-- what holds of the context of any piece of a body -/
structure Cg (G : Gd) (X : Cx) : Prop where
  K : X.K = G.K
  mg : X.mg = G.mg
  w : X.w = G.w
  calm : X.calm = true
  nd : X.N.Nodup
  po : PassesOwn (model X.prog X.w) X.A X.env X.xe
def JE (G : Gd) (X : Cx) (m : SemE) (e : Expr) : Prop := ∀ U : WX, Takes X U → PE X e (rdE G U m)
def JT (G : Gd) (X : Cx) (m : SemT) (e : Expr) : Prop := ∀ U : WX, Takes X U → PT X e (rdT G U m)
def JW (G : Gd) (X : Cx) (m : SemT) (e : Expr) : Prop := ∀ U : WX, Takes X U → PW X e (rdT G U m)
def JA (G : Gd) (X : Cx) (m : SemA) (es : List Expr) : Prop := ∀ U : WX, Takes X U → PA X es (rdA G U m)
def JS (G : Gd) (X : Cx) (m : SemS) (st : Stmt) : Prop := ∀ U : WX, Takes X U → PS X st (rdS G U m)
def JSs (G : Gd) (X : Cx) (m : SemS) (st : List Stmt) : Prop := ∀ U : WX, Takes X U → PSs X st (rdS G U m)
theorem _root_.L2.PE.imp {X : Cx} {e : Expr} {t t' : TE} (p : PE X e t) (h : ∀ σ H Q, t' σ H Q → t σ H Q) : PE X e t' := ⟨fun pins s σ H Q I q => p.run pins s σ H Q I (h σ H Q q)⟩
theorem _root_.L2.PT.imp {X : Cx} {e : Expr} {t t' : TT} (p : PT X e t) (h : ∀ σ H Q, t' σ H Q → t σ H Q) : PT X e t' := ⟨fun pins s σ H Q I q => p.run pins s σ H Q I (h σ H Q q)⟩
theorem _root_.L2.PW.imp {X : Cx} {e : Expr} {t t' : TT} (p : PW X e t) (h : ∀ σ H Q, t' σ H Q → t σ H Q) : PW X e t' := ⟨fun wh pins s σ H Q I q => p.run wh pins s σ H Q I (h σ H Q q)⟩
theorem _root_.L2.PA.imp {X : Cx} {es : List Expr} {t t' : TA} (p : PA X es t) (h : ∀ σ H Q, t' σ H Q → t σ H Q) : PA X es t' := ⟨fun pos pins s σ H Q I q => p.run pos pins s σ H Q I (h σ H Q q)⟩
theorem _root_.L2.PS.imp {X : Cx} {st : Stmt} {t t' : TS} (p : PS X st t) (h : ∀ D σ H, t' D σ H → t D σ H) : PS X st t' := ⟨fun pins s σ H D I q => p.run pins s σ H D I (h D σ H q)⟩
theorem _root_.L2.PSs.imp {X : Cx} {st : List Stmt} {t t' : TS} (p : PSs X st t) (h : ∀ D σ H, t' D σ H → t D σ H) : PSs X st t' := ⟨fun pins s σ H D I q => p.run pins s σ H D I (h D σ H q)⟩
/-- one value, then more -/
theorem rd_bind {G : Gd} {U : WX} {ma : SemE} {k : W → SemE} {σ : L2.St} {H : Hp} {Q : VK} {R : VK} (h : rdE G U (fun ρ h => (ma ρ h).bind fun x h1 => k x ρ h1) σ H Q)
    (hk : ∀ (ι ι1 : Io) (ρ : Env') (x : W) (h1 : AH) (v : V) (H1 : Hp), Ext ι H ι1 H1 → RlH G ι1 h1 H1 → RlE G ι1 ρ σ H1 → RepW G ι1 H1 x v → (k x ρ h1).to (okP G ι1 H1 Q) (erP G ι1 H1 (xk U σ)) → R v H1) : rdE G U ma σ H R := by
  obtain ⟨ι, ρ, h0, rh, re, m⟩ := h
  rw [to_bind] at m
  exact ⟨ι, ρ, h0, rh, re, Out.to_mono m (fun x h1 z ι1 v H1 e1 r1 v1 => hk ι ι1 ρ x h1 v H1 e1 r1 (re.mono e1) v1 (toUpP e1 z)) fun _ _ _ z => z⟩
/-- the same by the environment's own reading -/
theorem rd_of {G : Gd} {U : WX} {m : SemE} {σ : L2.St} {H : Hp} {Q : VK} {ι : Io} {ρ : Env'} {h : AH} (rh : RlH G ι h H) (re : RlE G ι ρ σ H) (k : (m ρ h).to (okP G ι H Q) (erP G ι H (xk U σ))) : rdE G U m σ H Q := ⟨ι, ρ, h, rh, re, k⟩
/-! ### names, constants -/
def eVar (i : Nat) : SemE := fun ρ h => match ρ[i]? with
  | some (some x) => .ok x h
  | _ => .bad
def eC (x : PyData) : SemE := fun _ h => .ok (.d x) h
section
variable {G : Gd} {X : Cx} {pos : Pos}
theorem je_var (i : Nat) {x : Str} (hN : X.N[i]? = some x := by rfl) (hv : Vis X.env.scope x := by first | exact Or.inl rfl | exact Or.inr (Or.inl rfl) | exact Or.inr (Or.inr rfl)) (hd : (x == ("__debug__" : Str)) = false := by decide) (hcd : (x == ("__classdict__" : Str)) = false := by decide) : JE G X (eVar i) (.Name x pos) := fun U _ =>
  (pe_var hN hv hd hcd).imp fun σ H Q h => by
    obtain ⟨ι, ρ, h0, rh, re, m⟩ := h
    unfold eVar at m
    split at m
    · rename_i w hw
      obtain ⟨v, e, r⟩ := re.get i w hw
      exact ⟨v, e, okP.here m rh r⟩
    · exact m.elim
theorem je_int {i : Int} {j : Nat} : JE G X (eC (.int i)) (.Constant (.int i) j pos) := fun U _ => pe_int.imp fun σ H Q ⟨ι, ρ, h0, rh, re, m⟩ => okP.here m rh (.int i)
theorem je_bool {i : Bool} {j : Nat} : JE G X (eC (.bool i)) (.Constant (.bool i) j pos) := fun U _ => pe_bl.imp fun σ H Q ⟨ι, ρ, h0, rh, re, m⟩ => okP.here m rh (.bl i)
theorem je_none {j : Nat} : JE G X (eC .none) (.Constant .none j pos) := fun U _ => pe_non.imp fun σ H Q ⟨ι, ρ, h0, rh, re, m⟩ => okP.here m rh .non
theorem je_str {x : Str} {j : Nat} : JE G X (eC (.str x)) (.Constant (.str x) j pos) := fun U _ => pe_str.imp fun σ H Q ⟨ι, ρ, h0, rh, re, m⟩ => okP.here m rh (.str x)
/-- a whole number of the module -/
theorem je_globI {x : Str} {i : Int} {u : Value} (hg : Gl X x) (hm : X.mg x = some u) (r : RelV (.int i) u) (hd : (x == ("__debug__" : Str)) = false := by decide) : JE G X (eC (.int i)) (.Name x pos) := fun U _ => (pe_glob hg hm r hd).imp fun σ H Q ⟨ι, ρ, h0, rh, re, m⟩ => okP.here m rh (.int i)
/-! ### operators by their values -/
abbrev Op1 := W → AH → Option W
abbrev Op2 := W → W → AH → Option W
def eOp (o : Op2) (a b : SemE) : SemE := fun ρ h => (a ρ h).bind fun x h1 => (b ρ h1).bind fun y h2 => .ofOpt (o x y h2) h2
def eUn (o : Op1) (a : SemE) : SemE := fun ρ h => (a ρ h).bind fun x h1 => .ofOpt (o x h1) h1
/-- an operator of the model does what the semantic one says -/
def OpS (G : Gd) (X : Cx) (f : Value → Value → Sem Value) (o : Op2) : Prop := ∃ r : R2, OpR X f r ∧ ∀ (ι : Io) (h : AH) (H : Hp) (x y z : W) (u v : V) (Q : VK), RlH G ι h H → RepW G ι H x u → RepW G ι H y v → o x y h = some z → okP G ι H Q z h → r u v H Q
def UnS (G : Gd) (X : Cx) (f : Value → Sem Value) (o : Op1) : Prop := ∃ r : V → Hp → VK → Prop, UnR X f r ∧ ∀ (ι : Io) (h : AH) (H : Hp) (x z : W) (u : V) (Q : VK), RlH G ι h H → RepW G ι H x u → o x h = some z → okP G ι H Q z h → r u H Q
theorem op_red {U : WX} {ma mb : SemE} {o : Op2} {r : R2} {σ : L2.St} {H : Hp} {Q : VK} (hr : ∀ (ι : Io) (h : AH) (H : Hp) (x y z : W) (u v : V) (Q : VK), RlH G ι h H → RepW G ι H x u → RepW G ι H y v → o x y h = some z → okP G ι H Q z h → r u v H Q)
    (h : rdE G U (eOp o ma mb) σ H Q) : tOp r (rdE G U ma) (rdE G U mb) σ H Q := by
  refine rd_bind (k := fun x ρ h1 => (mb ρ h1).bind fun y h2 => .ofOpt (o x y h2) h2) h fun ι ι1 ρ x h1 v H1 e1 r1 re1 v1 m1 => ?_
  rw [to_bind] at m1
  refine ⟨ι1, ρ, h1, r1, re1, Out.to_mono m1 (fun y h2 z ι2 u H2 e2 r2 u2 => ?_) fun _ _ _ z => z⟩
  obtain ⟨q, eq, k⟩ := to_ofOpt z
  exact hr ι2 h2 H2 x y q v u Q r2 (v1.mono e2) u2 eq (k.up e2)
theorem je_op {op : Operator} {o : Op2} {a b : Expr} {ma mb : SemE} (ho : OpS G X (binaryOp op) o) (ha : JE G X ma a) (hb : JE G X mb b) : JE G X (eOp o ma mb) (.BinOp a op b pos) := fun U t => by
  obtain ⟨r, h1, h2⟩ := ho
  exact (pe_op h1 (ha U t) (hb U t)).imp fun σ H Q h => op_red h2 h
theorem je_cmp {op : CmpOp} {o : Op2} {a b : Expr} {ma mb : SemE} (ho : OpS G X (compareOp op) o) (ha : JE G X ma a) (hb : JE G X mb b) (hm : behindInMarks op b = false := by first | exact nomark _ | rfl) : JE G X (eOp o ma mb) (.Compare a [op] [b] pos) := fun U t => by
  obtain ⟨r, h1, h2⟩ := ho
  exact (pe_cmpR h1 (ha U t) (hb U t) hm).imp fun σ H Q h => op_red h2 h
theorem je_un {op : UnaryOp} {o : Op1} {a : Expr} {ma : SemE} (ho : UnS G X (unaryOp op) o) (ha : JE G X ma a) : JE G X (eUn o ma) (.UnaryOp op a pos) := fun U t => by
  obtain ⟨r, h1, h2⟩ := ho
  refine (pe_un h1 (ha U t)).imp fun σ H Q h => ?_
  refine rd_bind (k := fun x ρ h1 => .ofOpt (o x h1) h1) h fun ι ι1 ρ x h1 v H1 e1 r1 re1 v1 m1 => ?_
  obtain ⟨q, eq, k⟩ := to_ofOpt m1
  exact h2 ι1 h1 H1 x q v Q r1 v1 eq k
end
end Q

set_option Elab.async false
set_option maxRecDepth 100000
set_option linter.all false
set_option autoImplicit false
namespace Q
open PySem PySem.Spec PyProof.Rows L2 LamX

/-! ### a list is frozen for good -/
def frzO (xs : List V) (o : Obj) : HO := .frz o (.lst xs)
theorem _root_.L2.Inv.frz {X : Cx} {pins : List (Addr × Obj)} {σ : L2.St} {H : Hp} {s : Shared} {a : Addr} {xs : List V} (I : Inv X pins σ H s) (ha : H a = some (.lst xs)) : ∃ o, Inv X pins σ (upd H a (frzO xs o)) s := by
  obtain ⟨z, its, n, rv, e⟩ := I.hok a _ ha
  refine ⟨{ cls := .type "list", data := .seq its.toArray n }, ?_⟩
  have ne : ∀ b u, H b = some u → u ≠ .lst xs → b ≠ a := fun b u q d z => by
    rw [z, ha] at q
    exact d (Option.some.inj q).symm
  have ne0 : ∀ b, H b = none → b ≠ a := fun b q z => by
    rw [z, ha] at q
    cases q
  refine I.un (t' := s.toks) (h' := s.heap) (H' := upd H a (frzO xs _)) ⟨fun b o q _ _ _ => q, fun b o q _ _ _ => ⟨o.slots, q⟩, fun b o q n _ => by rw [upd_ne (ne0 b n)]; exact n, fun b o q _ => ⟨o, q⟩, fun b ys q => by rw [upd_ne (ne b _ q (by intro z; cases z))]; exact q,
    fun b o u q => by rw [upd_ne (ne b _ q (by intro z; cases z))]; exact q, fun b ps q => ⟨#[], by rw [upd_ne (ne b _ q (by intro z; cases z)), q]; simp⟩⟩ fun b u q => ?_
  by_cases hb : b = a
  · subst hb
    rw [upd_same] at q
    cases q
    exact ⟨e, z, its, n, rv, e⟩
  · rw [upd_ne hb] at q
    exact (I.hok b u q).stay (fun c v _ r => r) (fun c r => by rw [upd_ne (ne c _ r (by intro z; cases z))]; exact r) fun c ys r => by rw [upd_ne (ne c _ r (by intro z; cases z))]; exact r
/-- what was got may be frozen -/
def tFrz (t : TE) : TE := fun σ H Q => t σ H fun v H' => Q v H' ∨ ∃ a xs, v = .ref a ∧ H' a = some (.lst xs) ∧ ∀ o, Q v (upd H' a (frzO xs o))
theorem pe_frz {X : Cx} {e : Expr} {t : TE} (p : PE X e t) : PE X e (tFrz t) := ⟨fun pins s σ H Q I h => thn (p.run pins s σ H _ I h) fun u s1 ⟨v, H1, I1, r1, q1⟩ => by
  rcases q1 with q | ⟨a, xs, e1, h1, q⟩
  · exact ⟨v, H1, I1, r1, q⟩
  · obtain ⟨o, J⟩ := I1.frz h1
    exact ⟨v, _, J, r1, q o⟩⟩
theorem upd2 {H : Hp} {a : Addr} {o u : HO} : upd (upd H a o) a u = upd H a u := upd_upd

/-! ### all of them data -/
def allD : List W → Option (List PyData)
  | [] => some []
  | .d x :: ws => (allD ws).map (x :: ·)
  | _ :: _ => none
theorem allD_rep {G : Gd} {ι : Io} {H : Hp} : ∀ {ws : List W} {vs : List V} {ds : List PyData}, allD ws = some ds → RepWs G ι H ws vs → RepDs G.K H vs ds
  | [], _, ds, e, r => by
    cases r
    cases (Option.some.inj e)
    exact .nil
  | .d x :: ws, _, ds, e, r => by
    cases r with
    | cons r1 r2 =>
      cases q : allD ws with
      | none => simp [allD, q] at e
      | some es =>
        simp [allD, q] at e
        subst e
        exact .cons r1 (allD_rep q r2)
  | .ref _ :: _, _, _, e, _ => by simp [allD] at e
  | .exc _ _ :: _, _, _, e, _ => by simp [allD] at e
  | .clo _ :: _, _, _, e, _ => by simp [allD] at e
  | .clos _ :: _, _, _, e, _ => by simp [allD] at e
theorem allD_map (ds : List PyData) : allD (ds.map W.d) = some ds := by
  induction ds with
  | nil => rfl
  | cons d ds ih => simp [allD, ih]
theorem rep_map {G : Gd} {ι : Io} {H : Hp} : ∀ {ds : List PyData} {vs : List V}, RepDs G.K H vs ds → RepWs G ι H (ds.map W.d) vs
  | _, _, .nil => .nil
  | _, _, .cons r t => .cons r (rep_map t)

section
variable {G : Gd} {X : Cx} {pos : Pos} {a b c e : Expr} {es rest : List Expr} {m ma mb mc : SemE} {ta tb tc : SemT} {ms : SemA}
/-! ### and, or, not, if .. else -/
def eAnd (ma mb : SemE) : SemE := fun ρ h => (ma ρ h).bind fun x h1 => match x with
  | .d (.bool true) => mb ρ h1
  | .d (.bool false) => .ok (.d (.bool false)) h1
  | _ => .bad
def eOr (ma mb : SemE) : SemE := fun ρ h => (ma ρ h).bind fun x h1 => match x with
  | .d (.bool true) => .ok (.d (.bool true)) h1
  | .d (.bool false) => mb ρ h1
  | _ => .bad
def eNot (ma : SemE) : SemE := fun ρ h => (ma ρ h).bind fun x h1 => match x with
  | .d (.bool b) => .ok (.d (.bool (!b))) h1
  | _ => .bad
def eIf (t : SemT) (ma mb : SemE) : SemE := fun ρ h => (t ρ h).bind fun b h1 => if b = true then ma ρ h1 else mb ρ h1
def tOf (ma : SemE) : SemT := fun ρ h => (ma ρ h).bind fun x h1 => match x with
  | .d (.bool b) => .ok b h1
  | _ => .bad
def tAndS (ta tb : SemT) : SemT := fun ρ h => (ta ρ h).bind fun b h1 => if b = true then tb ρ h1 else .ok false h1
def tOrS (ta tb : SemT) : SemT := fun ρ h => (ta ρ h).bind fun b h1 => if b = true then .ok true h1 else tb ρ h1
def tNotS (ta : SemT) : SemT := fun ρ h => (ta ρ h).bind fun b h1 => .ok (!b) h1
theorem je_one {op : BoolOp} (ha : JE G X m a) : JE G X m (.BoolOp op [a] pos) := fun U t => pe_one (ha U t)
theorem je_and (ha : JE G X ma a) (hb : JE G X mb (.BoolOp .And (b :: rest) pos)) : JE G X (eAnd ma mb) (.BoolOp .And (a :: b :: rest) pos) := fun U t => (pe_and (ha U t) (hb U t)).imp fun σ H Q h => by
  refine rd_bind h fun ι ι1 ρ x h1 v H1 e1 r1 re1 v1 m1 => ?_
  split at m1
  · cases v1
    exact ⟨true, rfl, ⟨ι1, ρ, h1, r1, re1, m1⟩⟩
  · cases v1
    exact ⟨false, rfl, okP.here m1 r1 (.bl false)⟩
  · exact m1.elim
theorem je_or (ha : JE G X ma a) (hb : JE G X mb (.BoolOp .Or (b :: rest) pos)) : JE G X (eOr ma mb) (.BoolOp .Or (a :: b :: rest) pos) := fun U t => (pe_or (ha U t) (hb U t)).imp fun σ H Q h => by
  refine rd_bind h fun ι ι1 ρ x h1 v H1 e1 r1 re1 v1 m1 => ?_
  split at m1
  · cases v1
    exact ⟨true, rfl, okP.here m1 r1 (.bl true)⟩
  · cases v1
    exact ⟨false, rfl, ⟨ι1, ρ, h1, r1, re1, m1⟩⟩
  · exact m1.elim
theorem je_not (ha : JE G X ma a) : JE G X (eNot ma) (.UnaryOp .Not a pos) := fun U t => (pe_not (ha U t)).imp fun σ H Q h => by
  refine rd_bind h fun ι ι1 ρ x h1 v H1 e1 r1 re1 v1 m1 => ?_
  split at m1
  · rename_i b
    cases v1
    exact ⟨b, rfl, okP.here m1 r1 (.bl _)⟩
  · exact m1.elim
theorem rdT_of {U : WX} {σ : L2.St} {H : Hp} {Q : Bool → Hp → Prop} {k : Bool → Env' → AH → Out W} {R : VK} {t : SemT} (h : rdE G U (fun ρ h => (t ρ h).bind fun b h1 => k b ρ h1) σ H R) (hk : ∀ (ι1 : Io) (ρ : Env') (b : Bool) (h1 : AH) (H1 : Hp), RlH G ι1 h1 H1 → RlE G ι1 ρ σ H1 → (k b ρ h1).to (okP G ι1 H1 R) (erP G ι1 H1 (xk U σ)) → Q b H1) : rdT G U t σ H Q := by
  obtain ⟨ι, ρ, h0, rh, re, m⟩ := h
  rw [to_bind] at m
  exact ⟨ι, ρ, h0, rh, re, Out.to_mono m (fun b h1 z ι1 H1 e1 r1 => hk ι1 ρ b h1 H1 r1 (re.mono e1) (toUpP e1 z)) fun _ _ _ z => z⟩
theorem je_if (hc : JT G X tc c) (ha : JE G X ma a) (hb : JE G X mb b) : JE G X (eIf tc ma mb) (.IfExp c a b pos) := fun U t => (pe_ifExp (hc U t) (ha U t) (hb U t)).imp fun σ H Q h => by
  refine rdT_of (k := fun b ρ h1 => if b = true then ma ρ h1 else mb ρ h1) h fun ι1 ρ b h1 H1 r1 re1 m1 => ?_
  cases b with
  | true => exact ⟨ι1, ρ, h1, r1, re1, m1⟩
  | false => exact ⟨ι1, ρ, h1, r1, re1, m1⟩
theorem tOf_red {U : WX} {σ : L2.St} {H : Hp} {Q : Bool → Hp → Prop} (h : rdT G U (tOf ma) σ H Q) : rdE G U ma σ H fun x H1 => ∃ k, x = .bl k ∧ Q k H1 := by
  obtain ⟨ι, ρ, h0, rh, re, m⟩ := h
  unfold tOf at m
  rw [to_bind] at m
  refine ⟨ι, ρ, h0, rh, re, Out.to_mono m (fun x h1 z ι1 v H1 e1 r1 v1 => ?_) fun _ _ _ z => z⟩
  split at z
  · rename_i b
    cases v1
    exact ⟨b, rfl, z ι1 H1 e1 r1⟩
  · exact z.elim
theorem jt_val (ha : JE G X ma a) (he : ∀ whole, isTrue a X.env whole = (do let v ← whole; standAt a.pos; holding [v] (truthy v)) := by intro _; rfl) : JT G X (tOf ma) a := fun U t => (pt_val (ha U t) he).imp fun σ H Q h => tOf_red h
theorem jt_cmp {op : CmpOp} {o : Op2} (ho : OpS G X (compareOp op) o) (ha : JE G X ma a) (hb : JE G X mb b) (hm : behindInMarks op b = false := by first | exact nomark _ | rfl) : JT G X (tOf (eOp o ma mb)) (.Compare a [op] [b] pos) := fun U t => by
  obtain ⟨r, h1, h2⟩ := ho
  exact (pt_cmpR h1 (ha U t) (hb U t) hm).imp fun σ H Q h => op_red h2 (tOf_red h)
theorem rdT_bind {U : WX} {σ : L2.St} {H : Hp} {Q R : Bool → Hp → Prop} {k : Bool → Env' → AH → Out Bool} {t : SemT} (h : rdT G U (fun ρ h => (t ρ h).bind fun b h1 => k b ρ h1) σ H R) (hk : ∀ (ι1 : Io) (ρ : Env') (b : Bool) (h1 : AH) (H1 : Hp), RlH G ι1 h1 H1 → RlE G ι1 ρ σ H1 → (k b ρ h1).to (okT G ι1 H1 R) (erP G ι1 H1 (xk U σ)) → Q b H1) : rdT G U t σ H Q := by
  obtain ⟨ι, ρ, h0, rh, re, m⟩ := h
  rw [to_bind] at m
  exact ⟨ι, ρ, h0, rh, re, Out.to_mono m (fun b h1 z ι1 H1 e1 r1 => hk ι1 ρ b h1 H1 r1 (re.mono e1) (toUpT e1 z)) fun _ _ _ z => z⟩
theorem jt_pw (h : JW G X ta a) : JT G X ta a := fun U t => (h U t).pt
theorem jw_and1 (ha : JT G X ta a) : JW G X ta (.BoolOp .And [a] pos) := fun U t => pw_and1 (ha U t)
theorem jw_or1 (ha : JT G X ta a) : JW G X ta (.BoolOp .Or [a] pos) := fun U t => pw_or1 (ha U t)
theorem jw_and (ha : JT G X ta a) (hb : JW G X tb (.BoolOp .And (b :: rest) pos)) : JW G X (tAndS ta tb) (.BoolOp .And (a :: b :: rest) pos) := fun U t => (pw_and (ha U t) (hb U t)).imp fun σ H Q h => by
  refine rdT_bind (k := fun b ρ h1 => if b = true then tb ρ h1 else .ok false h1) h fun ι1 ρ b h1 H1 r1 re1 m1 => ?_
  cases b with
  | true => exact ⟨ι1, ρ, h1, r1, re1, m1⟩
  | false => exact okT.here m1 r1
theorem jw_or (ha : JT G X ta a) (hb : JW G X tb (.BoolOp .Or (b :: rest) pos)) : JW G X (tOrS ta tb) (.BoolOp .Or (a :: b :: rest) pos) := fun U t => (pw_or (ha U t) (hb U t)).imp fun σ H Q h => by
  refine rdT_bind (k := fun b ρ h1 => if b = true then .ok true h1 else tb ρ h1) h fun ι1 ρ b h1 H1 r1 re1 m1 => ?_
  cases b with
  | true => exact okT.here m1 r1
  | false => exact ⟨ι1, ρ, h1, r1, re1, m1⟩
theorem jt_not (ha : JT G X ta a) : JT G X (tNotS ta) (.UnaryOp .Not a pos) := fun U t => (pt_not (ha U t)).imp fun σ H Q h => by
  exact rdT_bind (k := fun b ρ h1 => .ok (!b) h1) h fun ι1 ρ b h1 H1 r1 re1 m1 => okT.here m1 r1
/-! ### arguments, displays -/
def aNil : SemA := fun _ h => .ok [] h
def aCons (m : SemE) (ms : SemA) : SemA := fun ρ h => (m ρ h).bind fun x h1 => (ms ρ h1).bind fun xs h2 => .ok (x :: xs) h2
theorem ja_nil : JA G X aNil [] := fun U _ => pa_nil.imp fun σ H Q ⟨ι, ρ, h0, rh, re, m⟩ => m ι [] H .refl rh .nil
theorem ja_cons (ha : JE G X m e) (hr : JA G X ms es) (hs : starEach (e :: es) X.env = (false, eval e X.env) :: starEach es X.env := by rfl) : JA G X (aCons m ms) (e :: es) := fun U t => (pa_cons (ha U t) (hr U t) hs).imp fun σ H Q h => by
  obtain ⟨ι, ρ, h0, rh, re, q⟩ := h
  unfold aCons at q
  rw [to_bind] at q
  refine ⟨ι, ρ, h0, rh, re, Out.to_mono q (fun x h1 z ι1 v H1 e1 r1 v1 => ?_) fun _ _ _ z => z⟩
  rw [to_bind] at z
  refine ⟨ι1, ρ, h1, r1, re.mono e1, Out.to_mono z (fun xs h2 z2 ι2 vs H2 e2 r2 v2 => ?_) fun _ _ _ z2 => z2.up e1⟩
  exact z2 ι2 _ H2 (e1.trans e2) r2 (.cons (v1.mono e2) v2)
/-- arguments, then something of them -/
theorem rdA_bind {U : WX} {σ : L2.St} {H : Hp} {Q : VK} {k : List W → AH → Out W} {R : List V → Hp → Prop} (h : rdE G U (fun ρ h => (ms ρ h).bind fun xs h1 => k xs h1) σ H Q)
    (hk : ∀ (ι1 : Io) (xs : List W) (h1 : AH) (vs : List V) (H1 : Hp), RlH G ι1 h1 H1 → RepWs G ι1 H1 xs vs → (k xs h1).to (okP G ι1 H1 Q) (erP G ι1 H1 (xk U σ)) → R vs H1) : rdA G U ms σ H R := by
  obtain ⟨ι, ρ, h0, rh, re, m⟩ := h
  rw [to_bind] at m
  exact ⟨ι, ρ, h0, rh, re, Out.to_mono m (fun xs h1 z ι1 vs H1 e1 r1 v1 => hk ι1 xs h1 vs H1 r1 v1 (toUpP e1 z)) fun _ _ _ z => z⟩
def eTup (ms : SemA) : SemE := fun ρ h => (ms ρ h).bind fun xs h1 => .ofOpt ((allD xs).bind fun ds => if ds.length ≤ 1000 then some (.d (.tuple ds)) else none) h1
def eLstD (ms : SemA) : SemE := fun ρ h => (ms ρ h).bind fun xs h1 => .ofOpt ((allD xs).bind fun ds => if ds.length ≤ 1000 then some (.d (.list ds)) else none) h1
def eLstH (ms : SemA) : SemE := fun ρ h => (ms ρ h).bind fun xs h1 => if (xs.all W.flat = true ∧ xs.length ≤ 1000) then .ok (.ref h1.n) (h1.new (.lst xs)) else .bad
theorem line1000 {n : Nat} (h : n ≤ 1000) : n ≤ sizeLine := Nat.le_of_lt (small1000 h)
theorem display_D {f : List PyData → PyData} {xs : List W} {h1 : AH} {P R} (m1 : (Out.ofOpt ((allD xs).bind fun ds => if ds.length ≤ 1000 then some (W.d (f ds)) else none) h1).to P R) : ∃ ds, allD xs = some ds ∧ ds.length ≤ 1000 ∧ P (.d (f ds)) h1 := by
  obtain ⟨q, eq, k⟩ := to_ofOpt m1
  cases hd : allD xs with
  | none => simp [hd] at eq
  | some ds =>
    rw [hd] at eq
    by_cases hl : ds.length ≤ 1000
    · simp [hl] at eq
      subst eq
      exact ⟨ds, rfl, hl, k⟩
    · simp [hl] at eq
theorem je_tup {j : Nat} (ha : JA G X ms es) : JE G X (eTup ms) (.Tuple es j pos) := fun U t => (pe_tup (ha U t)).imp fun σ H Q h => by
  refine rdA_bind h fun ι1 xs h1 vs H1 r1 v1 m1 => ?_
  obtain ⟨ds, hd, hl, k⟩ := display_D m1
  have rd := allD_rep hd v1
  refine ⟨line1000 (by rw [rd.length]; exact hl), fun p np => k ι1 _ _ (Ext.fresh np) (r1.fresh np) ?_⟩
  exact .tup (.inl (.inl upd_same)) (RepDs.mono (Stb.fresh np) _ _ rd)
theorem je_lstD (ha : JA G X ms es) : JE G X (eLstD ms) (.List es pos) := fun U t => (pe_frz (pe_lst (ha U t))).imp fun σ H Q h => by
  refine rdA_bind h fun ι1 xs h1 vs H1 r1 v1 m1 => ?_
  obtain ⟨ds, hd, hl, k⟩ := display_D m1
  have rd := allD_rep hd v1
  refine ⟨line1000 (by rw [rd.length]; exact hl), fun p np => .inr ⟨p, vs, rfl, upd_same, fun o => ?_⟩⟩
  rw [upd2]
  exact k ι1 _ _ (Ext.fresh np) (r1.fresh np) (.lst upd_same (RepDs.mono (Stb.fresh np) _ _ rd))
theorem je_lstH (ha : JA G X ms es) : JE G X (eLstH ms) (.List es pos) := fun U t => (pe_lst (ha U t)).imp fun σ H Q h => by
  refine rdA_bind h fun ι1 xs h1 vs H1 r1 v1 m1 => ?_
  split at m1
  · rename_i hx
    refine ⟨line1000 (by rw [← v1.length]; exact hx.2), fun p np => m1 _ _ _ (r1.newExt np) (r1.new np ⟨vs, upd_same, (v1.down hx.1).mono (r1.newExt np)⟩) ⟨p, Io.new_same, rfl⟩⟩
  · exact m1.elim
/-- freeze what came, a list of data -/
def AH.del (h : AH) (i : Nat) : AH := ⟨h.n, fun j => if j = i then none else h.f j⟩
def eFrz (m : SemE) : SemE := fun ρ h => (m ρ h).bind fun x h1 => match x with
  | .ref i => match h1.f i with
    | some (.lst ws) => match allD ws with
      | some ds => .ok (.d (.list ds)) (h1.del i)
      | none => .bad
    | _ => .bad
  | x => .ok x h1
theorem RlH.frz {ι : Io} {h : AH} {H : Hp} {i : Nat} {a : Addr} {xs : List V} {o : Obj} (r : RlH G ι h H) (hi : ι i = some a) (ha : H a = some (.lst xs)) : Ext ι H ι (upd H a (frzO xs o)) ∧ RlH G ι (h.del i) (upd H a (frzO xs o)) := by
  have l : Loose H a := loose_lst ha
  have no : ∀ ps, frzO xs o ≠ .tbl ps := fun ps z => by unfold frzO at z; cases z
  refine ⟨Ext.write hi l no, ⟨fun j o' hj => ?_, r.lt, r.inj, fun j b hj => ?_, Tabs.write r.tab l⟩⟩
  · by_cases e : j = i
    · simp [AH.del, e] at hj
    · simp only [AH.del, if_neg e] at hj
      obtain ⟨b, h1, h2⟩ := r.ob j o' hj
      exact ⟨b, h1, h2.mono (Ext.write hi l no) (upd_ne fun z => e (r.inj j i a (z ▸ h1) hi))⟩
  · exact (r.trk j b hj).upd no
theorem je_frz (ha : JE G X m e) : JE G X (eFrz m) e := fun U t => (pe_frz (ha U t)).imp fun σ H Q h => by
  refine rd_bind h fun ι ι1 ρ x h1 v H1 e1 r1 re1 v1 m1 => ?_
  split at m1
  · split at m1
    · rename_i i _ ws hi
      split at m1
      · rename_i ds hd
        obtain ⟨a, e2, ev⟩ := v1
        obtain ⟨b, e3, vs, e4, rw4⟩ := r1.ob i _ hi
        rw [e2] at e3
        cases e3
        have rd := allD_rep hd rw4
        refine .inr ⟨a, vs, ev, e4, fun o => ?_⟩
        obtain ⟨x1, x2⟩ := r1.frz (o := o) e2 e4
        rw [ev]
        exact m1 ι1 _ _ x1 x2 (.lst upd_same (RepDs.mono x1.st _ _ rd))
      · exact m1.elim
    · exact m1.elim
  · exact .inl (okP.here m1 r1 v1)
end
end Q

set_option Elab.async false
set_option maxRecDepth 100000
set_option linter.all false
set_option autoImplicit false
namespace Q
open PySem PySem.Spec PyProof.Rows L2 LamX

def Out.st {α : Type} (o : Out α) (k : α → AH → OutS) : OutS := match o with
  | .ok a h => k a h
  | .err c fs h => .err c fs h
  | .bad => .bad
section
variable {G : Gd} {X : Cx} {pos : Pos} {e : Expr} {sts rest : List Stmt} {s1 : Stmt} {m : SemE} {mt : SemT} {ma mb : SemS}
theorem st_to {U : WX} {D : Ends} {σ : L2.St} {ι : Io} {H : Hp} {α : Type} {o : Out α} {k : α → AH → OutS} (h : stP G ι H U D (o.st k)) : o.to (fun a h1 => stP G ι H U D (k a h1)) (erP G ι H (xk U σ)) := by
  cases o with
  | ok a h1 => exact h
  | err c fs h1 => exact fun ι' H' C d e1 r1 g1 x1 => h ι' σ H' C d e1 r1 g1 x1
  | bad => exact h
/-- one value, then the rest of a statement -/
theorem rdS_bind {U : WX} {D : Ends} {σ : L2.St} {H : Hp} {k : W → Env' → AH → OutS} {R : VK} (h : rdS G U (fun ρ h => (m ρ h).st fun x h1 => k x ρ h1) D σ H)
    (hk : ∀ (ι1 : Io) (ρ : Env') (x : W) (h1 : AH) (v : V) (H1 : Hp), RlH G ι1 h1 H1 → RlE G ι1 ρ σ H1 → RepW G ι1 H1 x v → stP G ι1 H1 U D (k x ρ h1) → R v H1) : rdE G U m σ H R := by
  obtain ⟨ι, ρ, h0, rh, re, q⟩ := h
  have q := st_to (σ := σ) q
  exact ⟨ι, ρ, h0, rh, re, Out.to_mono q (fun x h1 z ι1 v H1 e1 r1 v1 => hk ι1 ρ x h1 v H1 r1 (re.mono e1) v1 (z.up e1)) fun _ _ _ z => z⟩
theorem rdSt_bind {U : WX} {D : Ends} {σ : L2.St} {H : Hp} {k : Bool → Env' → AH → OutS} {R : Bool → Hp → Prop} (h : rdS G U (fun ρ h => (mt ρ h).st fun x h1 => k x ρ h1) D σ H)
    (hk : ∀ (ι1 : Io) (ρ : Env') (x : Bool) (h1 : AH) (H1 : Hp), RlH G ι1 h1 H1 → RlE G ι1 ρ σ H1 → stP G ι1 H1 U D (k x ρ h1) → R x H1) : rdT G U mt σ H R := by
  obtain ⟨ι, ρ, h0, rh, re, q⟩ := h
  have q := st_to (σ := σ) q
  exact ⟨ι, ρ, h0, rh, re, Out.to_mono q (fun x h1 z ι1 H1 e1 r1 => hk ι1 ρ x h1 H1 r1 (re.mono e1) (z.up e1)) fun _ _ _ z => z⟩
def sNil : SemS := fun ρ h => .nx ρ h
def sSeq (a b : SemS) : SemS := fun ρ h => match a ρ h with
  | .nx ρ' h' => b ρ' h'
  | o => o
def sExpr (m : SemE) : SemS := fun ρ h => (m ρ h).st fun _ h1 => .nx ρ h1
def sRet (m : SemE) : SemS := fun ρ h => (m ρ h).st fun x h1 => .rt x h1
def sRetN : SemS := fun _ h => .rt (.d .none) h
def sIf (t : SemT) (a b : SemS) : SemS := fun ρ h => (t ρ h).st fun c h1 => if c = true then a ρ h1 else b ρ h1
def sSet (i : Nat) (m : SemE) : SemS := fun ρ h => (m ρ h).st fun x h1 => .nx (ρ.set i (some x)) h1
def sBreak : SemS := fun ρ h => .bk ρ h
def sCont : SemS := fun ρ h => .ct ρ h
def sRaise (c : String) : SemS := fun _ h => .err c [] h
theorem jss_nil : JSs G X sNil [] := fun U _ => pss_nil.imp fun D σ H ⟨ι, ρ, h0, rh, re, q⟩ => q ι σ H .refl rh re
theorem jss_cons (ha : JS G X ma s1) (hb : JSs G X mb rest) : JSs G X (sSeq ma mb) (s1 :: rest) := fun U t => (pss_cons (ha U t) (hb U t)).imp fun D σ H ⟨ι, ρ, h0, rh, re, q⟩ => by
  refine ⟨ι, ρ, h0, rh, re, ?_⟩
  unfold sSeq at q
  cases e : ma ρ h0 with
  | nx ρ' h' =>
    rw [e] at q
    exact fun ι' σ' H' e1 r1 re1 => ⟨ι', ρ', h', r1, re1, q.up e1⟩
  | rt x h => rw [e] at q; exact q
  | bk ρ h => rw [e] at q; exact q
  | ct ρ h => rw [e] at q; exact q
  | err c fs h => rw [e] at q; exact q
  | bad => rw [e] at q; exact q
theorem jss_one (ha : JS G X ma s1) : JSs G X ma [s1] := fun U t => pss_one (ha U t)
theorem js_expr (ha : JE G X m e) (hs : swapsWith e none pos.line X.env = pure false := by rfl) : JS G X (sExpr m) (.Expr e pos) := fun U t => (ps_expr (ha U t) hs).imp fun D σ H h =>
  rdS_bind h fun ι1 ρ x h1 v H1 r1 re1 v1 q => q ι1 σ H1 .refl r1 re1
theorem js_ret (ha : JE G X m e) : JS G X (sRet m) (.Return (some e) pos) := fun U t => (ps_ret (ha U t)).imp fun D σ H h =>
  rdS_bind h fun ι1 ρ x h1 v H1 r1 re1 v1 q => q ι1 v H1 .refl r1 v1
theorem js_retN : JS G X sRetN (.Return none pos) := fun U t => ps_retN.imp fun D σ H ⟨ι, ρ, h0, rh, re, q⟩ => q ι .non H .refl rh .non
theorem js_if {c : Expr} {a b : List Stmt} (hc : JT G X mt c) (ha : JSs G X ma a) (hb : JSs G X mb b) : JS G X (sIf mt ma mb) (.If c a b pos) := fun U t => (ps_if (hc U t) (ha U t) (hb U t)).imp fun D σ H h =>
  rdSt_bind h fun ι1 ρ x h1 H1 r1 re1 q => by
    cases x with
    | true => exact ⟨ι1, ρ, h1, r1, re1, q⟩
    | false => exact ⟨ι1, ρ, h1, r1, re1, q⟩
theorem js_set {i : Nat} {x : Str} {pos' : Pos} (hN : X.N.Nodup) (hi : X.N[i]? = some x) (hx : Loc X.env.scope x) (ha : JE G X m e) (hs : swapsWith e (some (.Name x pos')) pos.line X.env = pure false := by rfl) (hf : X.fn x = true ∨ X.env.scope.names.lookup x = some .local := by first | exact .inl rfl | exact .inr rfl) :
    JS G X (sSet i m) (.Assign [.Name x pos'] e pos) := fun U t => (ps_set hN hi hx (ha U t) hs hf).imp fun D σ H h =>
  rdS_bind h fun ι1 ρ x h1 v H1 r1 re1 v1 q => q ι1 _ H1 .refl r1 (re1.set v1)
theorem js_break : JS G X sBreak (.Break pos) := fun U _ => ps_break.imp fun D σ H ⟨ι, ρ, h0, rh, re, q⟩ => q ι σ H .refl rh re
theorem js_cont : JS G X sCont (.Continue pos) := fun U _ => ps_continue.imp fun D σ H ⟨ι, ρ, h0, rh, re, q⟩ => q ι σ H .refl rh re
theorem js_pass : JS G X sNil (.Pass pos) := fun U _ => ps_pass.imp fun D σ H ⟨ι, ρ, h0, rh, re, q⟩ => q ι σ H .refl rh re
theorem js_doc {x : Str} {j : Nat} {pos' : Pos} : JS G X sNil (.Expr (.Constant (.str x) j pos) pos') := fun U _ => ps_doc.imp fun D σ H ⟨ι, ρ, h0, rh, re, q⟩ => q ι σ H .refl rh re
/-- raise X('..') -/
theorem js_raise {c : String} {msg : Str} {j : Nat} {C : Addr} {bmB : List Value} {B newId initId : String} {p p2 pos2 : Pos} (hc : X.calm = true) (F : ExcBaseFacts B newId initId bmB) (q : PySem.W.excIn X.K C bmB newId = true) (gC : X.mg (Str.ofString c) = some (.ref C)) (kC : PySem.W.keepIn X.K (.ref C) = true) (r : Raises X (.ref C)) (hg : Gl X (Str.ofString c)) (hG : G.mg = X.mg)
    (hd : (Str.ofString c == ("__debug__" : Str)) = false := by decide) (hs : starEach [.Constant (.str msg) j p2] X.env = (false, eval (.Constant (.str msg) j p2) X.env) :: starEach [] X.env := by rfl) : JS G X (sRaise c) (.Raise (some (.Call (.Name (Str.ofString c) p) [.Constant (.str msg) j p2] [] pos)) none pos2) := fun U t =>
  (ps_raise hc t (pmk_own F q gC kC r hg (hdb := hd))).imp fun D σ H ⟨ι, ρ, h0, rh, re, k⟩ => k ι σ H C none .refl rh (by rw [hG]; exact gC) ⟨rfl, rfl⟩

/-! ### while -/
def whN (t : SemT) (b : SemS) : Nat → Env' → AH → Option OutS
  | 0, _, _ => none
  | n + 1, ρ, h => match t ρ h with
    | .ok true h1 => match b ρ h1 with
      | .nx ρ' h' => whN t b n ρ' h'
      | .ct ρ' h' => whN t b n ρ' h'
      | .bk ρ' h' => some (.nx ρ' h')
      | .rt x h' => some (.rt x h')
      | .err c fs h' => some (.err c fs h')
      | .bad => some .bad
    | .ok false h1 => some (.nx ρ h1)
    | .err c fs h1 => some (.err c fs h1)
    | .bad => some .bad
theorem whN_succ (t : SemT) (b : SemS) : ∀ (n : Nat) (ρ : Env') (h : AH) (o : OutS), whN t b n ρ h = some o → whN t b (n + 1) ρ h = some o
  | 0, _, _, _, e => by cases e
  | n + 1, ρ, h, o, e => by
    unfold whN at e
    unfold whN
    cases et : t ρ h with
    | ok b0 h1 =>
      rw [et] at e
      cases b0 with
      | true =>
        dsimp only at e ⊢
        cases eb : b ρ h1 with
        | nx ρ' h' =>
          rw [eb] at e
          exact whN_succ t b n ρ' h' o e
        | ct ρ' h' =>
          rw [eb] at e
          exact whN_succ t b n ρ' h' o e
        | bk ρ' h' => rw [eb] at e; exact e
        | rt x h' => rw [eb] at e; exact e
        | err c fs h' => rw [eb] at e; exact e
        | bad => rw [eb] at e; exact e
      | false => exact e
    | err c fs h1 => rw [et] at e; exact e
    | bad => rw [et] at e; exact e
theorem whN_add {t : SemT} {b : SemS} {n : Nat} (k : Nat) {ρ : Env'} {h : AH} {o : OutS} (e : whN t b n ρ h = some o) : whN t b (n + k) ρ h = some o := by
  induction k with
  | zero => exact e
  | succ k ih => exact whN_succ t b _ ρ h o ih
theorem whN_det {t : SemT} {b : SemS} {n k : Nat} {ρ : Env'} {h : AH} {o o' : OutS} (e : whN t b n ρ h = some o) (e' : whN t b k ρ h = some o') : o = o' := by
  have h1 := whN_add k e
  have h2 := whN_add n e'
  rw [Nat.add_comm] at h2
  rw [h1] at h2
  exact Option.some.inj h2
open Classical in
noncomputable def sWhile (t : SemT) (b : SemS) : SemS := fun ρ h => if x : ∃ n o, whN t b n ρ h = some o then Classical.choose (Classical.choose_spec x) else .bad
theorem sWhile_of {t : SemT} {b : SemS} {n : Nat} {ρ : Env'} {h : AH} {o : OutS} (e : whN t b n ρ h = some o) : sWhile t b ρ h = o := by
  have x : ∃ n o, whN t b n ρ h = some o := ⟨n, o, e⟩
  unfold sWhile
  rw [dif_pos x]
  exact whN_det (Classical.choose_spec (Classical.choose_spec x)) e
theorem sWhile_ex {t : SemT} {b : SemS} {ρ : Env'} {h : AH} (d : sWhile t b ρ h ≠ .bad) : ∃ n, whN t b n ρ h = some (sWhile t b ρ h) := by
  by_cases x : ∃ n o, whN t b n ρ h = some o
  · obtain ⟨n, o, e⟩ := x
    exact ⟨n, by rw [sWhile_of e]; exact e⟩
  · exact absurd (by unfold sWhile; rw [dif_neg x]) d
theorem js_while {c : Expr} {body : List Stmt} (cg : PassesOwn (model X.prog X.w) X.A X.env X.xe) (hc : JT G X mt c) (hb : JSs G X ma body) : JS G X (sWhile mt ma) (.While c body [] pos) := fun U t => (ps_while cg (hc U t) (hb U t)).imp fun D σ H ⟨ι, ρ, h0, rh, re, q⟩ => by
  have nb : sWhile mt ma ρ h0 ≠ .bad := fun z => by rw [z] at q; exact q
  obtain ⟨n, en⟩ := sWhile_ex nb
  refine ⟨fun m σ H => ∃ (ι : Io) (ρ : Env') (h : AH) (o : OutS), RlH G ι h H ∧ RlE G ι ρ σ H ∧ whN mt ma m ρ h = some o ∧ stP G ι H U D o, ⟨n, ι, ρ, h0, _, rh, re, en, q⟩, ?_⟩
  rintro m σ1 H1 ⟨ι1, ρ1, h1, o, r1, re1, e1, q1⟩
  cases m with
  | zero => cases e1
  | succ m =>
    unfold whN at e1
    refine ⟨ι1, ρ1, h1, r1, re1, ?_⟩
    cases et : mt ρ1 h1 with
    | ok b h2 =>
      rw [et] at e1
      intro ι2 H2 x2 r2
      have re2 := re1.mono x2
      cases b with
      | true =>
        rw [if_pos rfl]
        dsimp only at e1
        refine ⟨fun σ H => ∃ (ι : Io) (ρ : Env') (h : AH) (o : OutS), RlH G ι h H ∧ RlE G ι ρ σ H ∧ whN mt ma m ρ h = some o ∧ stP G ι H U D o, fun σ' H' z => ⟨m, Nat.lt_succ_self m, z⟩, ι2, ρ1, h2, r2, re2, ?_⟩
        cases eb : ma ρ1 h2 with
        | nx ρ' h' =>
          rw [eb] at e1
          exact fun ι' σ' H' x3 r3 re3 => ⟨ι', ρ', h', o, r3, re3, e1, q1.up (x2.trans x3)⟩
        | ct ρ' h' =>
          rw [eb] at e1
          exact fun ι' σ' H' x3 r3 re3 => ⟨ι', ρ', h', o, r3, re3, e1, q1.up (x2.trans x3)⟩
        | bk ρ' h' =>
          rw [eb] at e1
          cases e1
          exact q1.up x2
        | rt x h' =>
          rw [eb] at e1
          cases e1
          exact q1.up x2
        | err c fs h' =>
          rw [eb] at e1
          cases e1
          exact q1.up x2
        | bad =>
          rw [eb] at e1
          cases e1
          exact q1
      | false =>
        cases e1
        rw [if_neg Bool.false_ne_true]
        exact q1 ι2 σ1 H2 x2 r2 re2
    | err c fs h2 =>
      rw [et] at e1
      cases e1
      exact fun ι' H' C d x2 r2 g2 d2 => q1 ι' σ1 H' C d x2 r2 g2 d2
    | bad =>
      rw [et] at e1
      cases e1
      exact q1
end
end Q

set_option Elab.async false
set_option maxRecDepth 100000
set_option linter.all false
set_option autoImplicit false
namespace Q
open PySem PySem.Spec PyProof.Rows L2 LamX

/-! ### targets -/
abbrev SemG := W → Env' → Option Env'
abbrev SemGs := List W → Env' → Option Env'
def gN (i : Nat) : SemG := fun x ρ => some (ρ.set i (some x))
def gsNil : SemGs := fun xs ρ => match xs with
  | [] => some ρ
  | _ => none
def gsCons (g : SemG) (gs : SemGs) : SemGs := fun xs ρ => match xs with
  | x :: r => (g x ρ).bind (gs r)
  | [] => none
def gT (n : Nat) (gs : SemGs) : SemG := fun x ρ => match x with
  | .d (.tuple ds) => if ds.length = n then gs (ds.map .d) ρ else none
  | _ => none
/-- only the slots sl were set -/
def Sets (sl : List Nat) (σ σ' : L2.St) : Prop := ∀ vs : List Nat, (∀ i ∈ sl, i ∈ vs) → wipe σ' vs = wipe σ vs
theorem wipe_set (σ : L2.St) (i : Nat) (x : Option V) : ∀ vs : List Nat, wipe (σ.set i x) vs = if i ∈ vs then wipe σ vs else (wipe σ vs).set i x
  | [] => by simp [wipe]
  | v :: vs => by
    have ih := wipe_set σ i x vs
    show (wipe (σ.set i x) vs).set v none = _
    rw [ih]
    by_cases h : i ∈ vs
    · rw [if_pos h, if_pos (List.mem_cons_of_mem _ h)]
      rfl
    · rw [if_neg h]
      by_cases e : i = v
      · subst e
        rw [if_pos List.mem_cons_self, List.set_set]
        rfl
      · rw [if_neg (by simp [h, e])]
        show ((wipe σ vs).set i x).set v none = ((wipe σ vs).set v none).set i x
        exact List.set_comm _ _ e
theorem Sets.one (σ : L2.St) (i : Nat) (x : Option V) : Sets [i] σ (σ.set i x) := fun vs h => by
  rw [wipe_set, if_pos (h i List.mem_cons_self)]
theorem Sets.app {s1 s2 : List Nat} {σ σ1 σ2 : L2.St} (a : Sets s1 σ σ1) (b : Sets s2 σ1 σ2) : Sets (s1 ++ s2) σ σ2 := fun vs h => by
  rw [b vs fun i hi => h i (List.mem_append_right _ hi), a vs fun i hi => h i (List.mem_append_left _ hi)]
theorem wipe_idem (σ : L2.St) (vs : List Nat) : wipe (wipe σ vs) vs = wipe σ vs := by
  have key : ∀ (us : List Nat) (τ : L2.St), (∀ i ∈ us, i ∈ vs) → wipe (wipe τ us) vs = wipe τ vs := by
    intro us
    induction us with
    | nil => intro τ _; rfl
    | cons u us ih =>
      intro τ h
      show wipe ((wipe τ us).set u none) vs = _
      rw [wipe_set, if_pos (h u List.mem_cons_self)]
      exact ih τ fun i hi => h i (List.mem_cons_of_mem _ hi)
  exact key vs σ fun _ h => h
def JG (G : Gd) (X : Cx) (g : SemG) (sl : List Nat) (tg : Expr) : Prop := ∃ r : TG, PG X tg r ∧ ∀ (ι : Io) (H : Hp) (x : W) (v : V) (ρ ρ' : Env') (σ : L2.St) (Q : L2.St → Hp → Prop), RlE G ι ρ σ H → RepW G ι H x v → g x ρ = some ρ' → (∀ σ', RlE G ι ρ' σ' H → Sets sl σ σ' → Q σ' H) → r v σ H Q
def JGs (G : Gd) (X : Cx) (gs : SemGs) (sl : List Nat) (ts : List Expr) : Prop := ∃ r : TGs, PGs X ts r ∧ ∀ (ι : Io) (H : Hp) (xs : List W) (vs : List V) (ρ ρ' : Env') (σ : L2.St) (Q : L2.St → Hp → Prop), RlE G ι ρ σ H → RepWs G ι H xs vs → gs xs ρ = some ρ' → (∀ σ', RlE G ι ρ' σ' H → Sets sl σ σ' → Q σ' H) → r vs σ H Q
section
variable {G : Gd} {X : Cx} {pos : Pos}
theorem jg_name {i : Nat} {x : Str} (hN : X.N.Nodup) (hi : X.N[i]? = some x) (hx : Loc X.env.scope x) (hf : X.fn x = true ∨ X.env.scope.names.lookup x = some .local := by first | exact .inl rfl | exact .inr rfl) : JG G X (gN i) [i] (.Name x pos) :=
  ⟨_, pg_name hN hi hx hf, fun ι H x v ρ ρ' σ Q re rv e k => by
    cases e
    exact k _ (re.set rv) (Sets.one σ i _)⟩
theorem jgs_nil : JGs G X gsNil [] [] := ⟨_, pgs_nil, fun ι H xs vs ρ ρ' σ Q re rv e k => by
  cases rv with
  | nil =>
    cases e
    exact ⟨rfl, k σ re fun _ _ => rfl⟩
  | cons _ _ => cases e⟩
theorem jgs_cons {g : SemG} {gs : SemGs} {s1 s2 : List Nat} {e : Expr} {es : List Expr} (h1 : JG G X g s1 e) (h2 : JGs G X gs s2 es) (hs : (assignEach (e :: es) X.env).map (·.2) = assign e X.env :: (assignEach es X.env).map (·.2) := by rfl) : JGs G X (gsCons g gs) (s1 ++ s2) (e :: es) := by
  obtain ⟨r1, p1, k1⟩ := h1
  obtain ⟨r2, p2, k2⟩ := h2
  refine ⟨_, pgs_cons p1 p2 hs, fun ι H xs vs ρ ρ' σ Q re rv e k => ?_⟩
  cases rv with
  | nil => cases e
  | cons rx rr =>
    rename_i x v xs vs
    have e' : (g x ρ).bind (gs xs) = some ρ' := e
    cases eg : g x ρ with
    | none => rw [eg] at e'; cases e'
    | some ρ1 =>
      rw [eg] at e'
      exact ⟨v, vs, rfl, k1 ι H x v ρ ρ1 σ _ re rx eg fun σ1 re1 se1 => k2 ι H xs vs ρ1 ρ' σ1 Q re1 rr e' fun σ2 re2 se2 => k σ2 re2 (se1.app se2)⟩
theorem jg_tup {gs : SemGs} {sl : List Nat} {es : List Expr} {j n : Nat} (hc : X.calm = true) (hK : X.K = G.K) (h : JGs G X gs sl es) (hn : (assignEach es X.env).length = n := by rfl) (hst : (assignEach es X.env).findIdx? (·.1) = none := by rfl) : JG G X (gT n gs) sl (.Tuple es j pos) := by
  obtain ⟨r, p, k0⟩ := h
  refine ⟨_, pg_tup hc p hn hst, fun ι H x v ρ ρ' σ Q re rv e k => ?_⟩
  cases x with
  | d y =>
    cases y with
    | tuple ds =>
      cases rv with
      | @tup a xs _ h1 h2 =>
        have e' : (if ds.length = n then gs (ds.map .d) ρ else none) = some ρ' := e
        by_cases hl : ds.length = n
        · rw [if_pos hl] at e'
          exact ⟨a, xs, rfl, by rw [hK]; exact h1, by rw [h2.length]; exact hl, k0 ι H _ xs ρ ρ' σ Q re (rep_map h2) e' k⟩
        · rw [if_neg hl] at e'
          cases e'
    | _ => cases e
  | _ => cases e
end

/-! ### what is walked -/
abbrev SemI := Env' → AH → Out (List W × (AH → Prop))
structure ItOk (G : Gd) (J : It) (ι0 : Io) (H0 : Hp) (ws : List W) (chk : AH → Prop) : Prop where
  go : ∀ (ι : Io) (h : AH) (H : Hp) (i : Nat), Ext ι0 H0 ι H → RlH G ι h H → chk h → i < ws.length → J.go i H
  yld : ∀ (ι : Io) (h : AH) (H : Hp) (i : Nat) (x : V) (H' : Hp), Ext ι0 H0 ι H → RlH G ι h H → chk h → i < ws.length → J.yld i H x H' → Ext ι H ι H' ∧ RlH G ι h H' ∧ ∃ y, ws[i]? = some y ∧ RepW G ι H' y x
  stop : ∀ (ι : Io) (h : AH) (H : Hp), Ext ι0 H0 ι H → RlH G ι h H → chk h → J.stop ws.length H
def rdI (G : Gd) (U : WX) (mi : SemI) : TI := fun σ H R => ∃ (ι : Io) (ρ : Env') (h : AH), RlH G ι h H ∧ RlE G ι ρ σ H ∧ (mi ρ h).to (fun p h' => ∀ (ι' : Io) (H' : Hp) (J : It), Ext ι H ι' H' → RlH G ι' h' H' → ItOk G J ι' H' p.1 p.2 → p.1.length ≤ sizeLine → R J H') (erP G ι H (xk U σ))
def JI (G : Gd) (X : Cx) (mi : SemI) (tg it : Expr) : Prop := ∀ U : WX, Takes X U → PI X tg it (rdI G U mi)
theorem _root_.L2.PI.imp {X : Cx} {tg it : Expr} {t t' : TI} (p : PI X tg it t) (h : ∀ σ H R, t' σ H R → t σ H R) : PI X tg it t' := ⟨fun pins s σ H R I q => p.run pins s σ H R I (h σ H R q)⟩
def iSeq (m : SemE) : SemI := fun ρ h => (m ρ h).bind fun x h1 => match x with
  | .d (.list ds) => .ok (ds.map .d, fun _ => True) h1
  | .d (.tuple ds) => .ok (ds.map .d, fun _ => True) h1
  | .ref i => match h1.f i with
    | some (.lst ws) => .ok (ws, fun h => h.f i = some (.lst ws)) h1
    | _ => .bad
  | .clos ks => .ok (ks.map .clo, fun _ => True) h1
  | _ => .bad
theorem Paired.get' {α β : Type} {F : α → β → Prop} : ∀ {l : List α} {m : List β} {i : Nat} {b : β}, Paired F l m → m[i]? = some b → ∃ a, l[i]? = some a ∧ F a b
  | _, _, _, _, .nil, e => by simp at e
  | _, _, 0, _, .cons r _, e => by simp at e; subst e; exact ⟨_, rfl, r⟩
  | _, _, i + 1, b, .cons _ t, e => by
    obtain ⟨a, h1, h2⟩ := Paired.get' (i := i) t (by simpa using e)
    exact ⟨a, by simpa using h1, h2⟩
theorem Paired.get1 {α β : Type} {F : α → β → Prop} : ∀ {l : List α} {m : List β} {i : Nat} {a : α}, Paired F l m → l[i]? = some a → ∃ b, m[i]? = some b ∧ F a b
  | _, _, _, _, .nil, e => by simp at e
  | _, _, 0, _, .cons r _, e => by simp at e; subst e; exact ⟨_, rfl, r⟩
  | _, _, i + 1, b, .cons _ t, e => by
    obtain ⟨a, h1, h2⟩ := Paired.get1 (i := i) t (by simpa using e)
    exact ⟨a, by simpa using h1, h2⟩
/-- a list that stays, told by the heap at each turn -/
theorem itl_ok {G : Gd} {K : PySem.W.Frag} {ι0 : Io} {H0 : Hp} {a : Addr} {ws : List W} {chk : AH → Prop} (h : ∀ (ι : Io) (h : AH) (H : Hp), Ext ι0 H0 ι H → RlH G ι h H → chk h → ∃ vs, SqL K H a vs ∧ RepWs G ι H ws vs) : ItOk G (Itl K a) ι0 H0 ws chk where
  go := fun ι h1 H i e r c hi => by
    obtain ⟨vs, q, rw⟩ := h ι h1 H e r c
    have hi' : i < vs.length := by rw [← rw.length]; exact hi
    exact ⟨vs, vs[i], q, by simp [hi']⟩
  yld := fun ι h1 H i x H' e r c hi y => by
    obtain ⟨rfl, y⟩ := y
    obtain ⟨vs, q, rw⟩ := h ι h1 H' e r c
    exact ⟨.refl, r, Paired.get' rw (y vs q)⟩
  stop := fun ι h1 H e r c => by
    obtain ⟨vs, q, rw⟩ := h ι h1 H e r c
    exact ⟨vs, q, Nat.le_of_eq rw.length.symm⟩
theorem itt_ok {G : Gd} {K : PySem.W.Frag} {ι0 : Io} {H0 : Hp} {a : Addr} {ws : List W} {chk : AH → Prop} (h : ∀ (ι : Io) (h : AH) (H : Hp), Ext ι0 H0 ι H → RlH G ι h H → chk h → ∃ vs, SqT K H a vs ∧ RepWs G ι H ws vs) : ItOk G (Itt K a) ι0 H0 ws chk where
  go := fun ι h1 H i e r c hi => by
    obtain ⟨vs, q, rw⟩ := h ι h1 H e r c
    have hi' : i < vs.length := by rw [← rw.length]; exact hi
    exact ⟨vs, vs[i], q, by simp [hi']⟩
  yld := fun ι h1 H i x H' e r c hi y => by
    obtain ⟨rfl, y⟩ := y
    obtain ⟨vs, q, rw⟩ := h ι h1 H' e r c
    exact ⟨.refl, r, Paired.get' rw (y vs q)⟩
  stop := fun ι h1 H e r c => by
    obtain ⟨vs, q, rw⟩ := h ι h1 H e r c
    exact ⟨vs, q, Nat.le_of_eq rw.length.symm⟩
section
variable {G : Gd} {X : Cx} {pos : Pos} {tg e : Expr} {m : SemE}
/-- a list or a tuple, walked -/
def iEither (K : PySem.W.Frag) (tl : TE) : TI := fun σ H R => tl σ H fun x H1 => ∃ a, x = .ref a ∧ ((∃ xs, SqL K H1 a xs ∧ (xs.length ≤ sizeLine → R (Itl K a) H1)) ∨ (∃ xs, SqT K H1 a xs ∧ (xs.length ≤ sizeLine → R (Itt K a) H1)))
theorem pi_either {tl : TE} (hl : PE X e tl) : PI X tg e (iEither X.K tl) := by
  constructor
  intro pins s σ H R I h
  refine thn (hl.run pins s σ H _ I h) fun v s1 hv => ?_
  obtain ⟨x, H1, I1, r1, a, e, q1⟩ := hv
  subst e
  cases r1
  have fpk : ∀ b ∈ [s1.heap.objs.size], FpOk X pins H1 b := fun b hb => by
    have e : b = s1.heap.objs.size := by simpa using hb
    rw [e]
    exact I1.fpOk (Nat.le_refl _) (I1.hok.fresh (Nat.le_refl _))
  rcases q1 with ⟨xs, hq, q⟩ | ⟨xs, hq, q⟩
  · obtain ⟨its, rv, p, hz⟩ := I1.list hq
    refine wpAny_pyIter_list p.isList ?_
    exact ⟨s1.heap.objs.size, [s1.heap.objs.size], _, _, H1, rfl, I1.kept (t' := s1.toks) fun b o e => Heap.get?_push_of_some _ e, turn_list a _, ⟨_, Heap.get?_push_size _ rfl, rfl, rfl⟩, fpk, q hz⟩
  · obtain ⟨its, rv, p, hz⟩ := I1.tuple hq
    refine wpAny_pyIter_tuple (show s1.heap.IsTuple a its.toArray from p) ?_
    exact ⟨s1.heap.objs.size, [s1.heap.objs.size], _, _, H1, rfl, I1.kept (t' := s1.toks) fun b o e => Heap.get?_push_of_some _ e, turn_tuple a _, ⟨_, Heap.get?_push_size _ rfl, rfl, rfl⟩, fpk, q hz⟩
theorem ji_seq (hK : X.K = G.K) (ha : JE G X m e) : JI G X (iSeq m) tg e := fun U t => (pi_either (ha U t)).imp fun σ H R h => by
  obtain ⟨ι, ρ, h0, rh, re, q⟩ := h
  unfold iSeq at q
  rw [to_bind] at q
  refine ⟨ι, ρ, h0, rh, re, Out.to_mono q (fun x h1 z ι1 v H1 e1 r1 v1 => ?_) fun _ _ _ z => z⟩
  rw [hK]
  split at z
  · rename_i ds
    cases v1 with
    | @lst a o xs _ h1 h2 =>
      exact ⟨a, rfl, .inl ⟨xs, .inl (.inr ⟨o, h1⟩), fun hl => z ι1 H1 _ e1 r1 (itl_ok fun ι h H x r _ => ⟨xs, .inl (.inr ⟨o, x.st.2 _ _ _ h1⟩), rep_map (RepDs.mono x.st _ _ h2)⟩) (by rw [List.length_map, ← h2.length]; exact hl)⟩⟩
  · rename_i ds
    cases v1 with
    | @tup a xs _ h1 h2 =>
      exact ⟨a, rfl, .inr ⟨xs, h1, fun hl => z ι1 H1 _ e1 r1 (itt_ok fun ι h H x r _ => ⟨xs, sqT_mono x.st h1, rep_map (RepDs.mono x.st _ _ h2)⟩) (by rw [List.length_map, ← h2.length]; exact hl)⟩⟩
  · rename_i i
    split at z
    · rename_i ws hi
      obtain ⟨a, hia, ev⟩ := v1
      obtain ⟨b, hib, vs, hb, rw⟩ := r1.ob i _ hi
      rw [hia] at hib
      cases hib
      refine ⟨a, ev, .inl ⟨vs, .inl (.inl hb), fun hl => z ι1 H1 _ e1 r1 (itl_ok fun ι h H x r c => ?_) (by rw [rw.length]; exact hl)⟩⟩
      obtain ⟨b, hib, us, hb, rw'⟩ := r.ob i _ c
      rw [x.up i a hia] at hib
      cases hib
      exact ⟨us, .inl (.inl hb), rw'.up⟩
    · exact z.elim
  · rename_i ks
    obtain ⟨a, o, vs, ev, hb, p⟩ := v1
    refine ⟨a, ev, .inl ⟨vs, .inl (.inr ⟨o, hb⟩), fun hl => z ι1 H1 _ e1 r1 (itl_ok fun ι h H x r _ => ⟨vs, .inl (.inr ⟨o, x.st.2 _ _ _ hb⟩), ?_⟩) (by rw [List.length_map, p.length]; exact hl)⟩⟩
    have go : ∀ (ks : List Nat) (vs : List V), Paired (fun k v => G.cl.p k ι1 H1 v) ks vs → RepWs G ι H (ks.map .clo) vs := by
      intro ks
      induction ks with
      | nil => intro vs p; cases p; exact .nil
      | cons k ks ih =>
        intro vs p
        cases p with
        | cons p1 p2 => exact .cons (G.cl.mono _ _ _ _ _ _ x.lo p1) (ih _ p2)
    exact go ks vs p
  · exact z.elim
/-- range(a), range(a, b) -/
def rngW (lo : Int) (n : Nat) : List W := (List.range n).map fun (k : Nat) => W.d (.int (lo + (k : Int)))
def iRange1 (ma : SemE) : SemI := fun ρ h => (ma ρ h).bind fun x h1 => match x with
  | .d (.int j) => if -(2 ^ 62) ≤ j ∧ j ≤ 1000000 then .ok (rngW 0 j.toNat, fun _ => True) h1 else .bad
  | _ => .bad
theorem itr_ok {ι0 : Io} {H0 : Hp} {lo : Int} {n : Nat} {chk : AH → Prop} : ItOk G (Itr lo n) ι0 H0 (rngW lo n) chk where
  go := fun ι h1 H i e r c hi => by simpa [rngW, Itr] using hi
  yld := fun ι h1 H i x H' e r c hi y => by
    obtain ⟨rfl, rfl⟩ := y
    have hi' : i < n := by simpa [rngW] using hi
    exact ⟨.refl, r, .d (.int (lo + i)), by simp [rngW, List.getElem?_map, List.getElem?_range hi'], .int _⟩
  stop := fun ι h1 H e r c => by simp [rngW, Itr]
theorem ji_range1 {a : Expr} {ma : SemE} {p : Pos} (hg : Gl X "range") (hm : X.mg "range" = none) (ha : JE G X ma a) (hs : starEach [a] X.env = [(false, eval a X.env)] := by rfl) : JI G X (iRange1 ma) tg (.Call (.Name "range" p) [a] [] pos) := fun U t =>
  (pi_range1 hg hm (pa_cons (ha U t) pa_nil hs) hs).imp fun σ H R h => by
    obtain ⟨ι, ρ, h0, rh, re, q⟩ := h
    unfold iRange1 at q
    rw [to_bind] at q
    refine ⟨ι, ρ, h0, rh, re, Out.to_mono q (fun x h1 z ι1 v H1 e1 r1 v1 => ?_) fun _ _ _ z => z⟩
    split at z
    · rename_i j
      cases v1
      split at z
      · rename_i hj
        exact ⟨j, rfl, hj.1, by omega, z ι1 H1 _ e1 r1 itr_ok (by simp only [rngW, List.length_map, List.length_range]; rw [sizeLine_eq]; omega)⟩
      · exact z.elim
    · exact z.elim
def iRange2 (ma mb : SemE) : SemI := fun ρ h => (ma ρ h).bind fun x h1 => (mb ρ h1).bind fun y h2 => match x, y with
  | .d (.int i), .d (.int j) => if -(2 ^ 62) ≤ i ∧ i < 2 ^ 62 ∧ -(2 ^ 62) ≤ j ∧ j < 2 ^ 62 ∧ j - i ≤ 1000000 then .ok (rngW i (j - i).toNat, fun _ => True) h2 else .bad
  | _, _ => .bad
theorem ji_range2 {a b : Expr} {ma mb : SemE} {p : Pos} (hg : Gl X "range") (hm : X.mg "range" = none) (ha : JE G X ma a) (hb : JE G X mb b) (hs : starEach [a, b] X.env = [(false, eval a X.env), (false, eval b X.env)] := by rfl) (hs2 : starEach [b] X.env = [(false, eval b X.env)] := by rfl) :
    JI G X (iRange2 ma mb) tg (.Call (.Name "range" p) [a, b] [] pos) := fun U t =>
  (pi_range2 hg hm (pa_cons (ha U t) (pa_cons (hb U t) pa_nil hs2) (by rw [hs, hs2])) hs hs2).imp fun σ H R h => by
    obtain ⟨ι, ρ, h0, rh, re, q⟩ := h
    unfold iRange2 at q
    rw [to_bind] at q
    refine ⟨ι, ρ, h0, rh, re, Out.to_mono q (fun x h1 z ι1 v H1 e1 r1 v1 => ?_) fun _ _ _ z => z⟩
    rw [to_bind] at z
    refine ⟨ι1, ρ, h1, r1, re.mono e1, Out.to_mono z (fun y h2 z2 ι2 u H2 e2 r2 u2 => ?_) fun _ _ _ z2 => z2.up e1⟩
    split at z2
    · rename_i i j
      cases v1
      cases u2
      split at z2
      · rename_i hj
        exact ⟨i, j, rfl, ⟨hj.1, hj.2.1, hj.2.2.1, hj.2.2.2.1⟩, z2 ι2 H2 _ (e1.trans e2) r2 itr_ok (by simp only [rngW, List.length_map, List.length_range]; rw [sizeLine_eq]; omega)⟩
      · exact z2.elim
    · exact z2.elim
/-- enumerate(list) -/
def enW : Nat → List W → Option (List W)
  | _, [] => some []
  | n, .d x :: ws => (enW (n + 1) ws).map (.d (.tuple [.int (n : Int), x]) :: ·)
  | _, _ :: _ => none
theorem enW_get : ∀ {ws : List W} {n : Nat} {us : List W}, enW n ws = some us → us.length = ws.length ∧ ∀ (i : Nat) (y : W), us[i]? = some y → ∃ x, ws[i]? = some (W.d x) ∧ y = W.d (.tuple [.int ((n + i : Nat) : Int), x])
  | [], n, us, e => by cases e; exact ⟨rfl, fun i y q => by simp at q⟩
  | .d x :: ws, n, us, e => by
    cases q : enW (n + 1) ws with
    | none => simp [enW, q] at e
    | some vs =>
      simp [enW, q] at e
      subst e
      obtain ⟨h1, h2⟩ := enW_get q
      refine ⟨by simp [h1], fun i y hy => ?_⟩
      cases i with
      | zero =>
        simp at hy
        subst hy
        exact ⟨x, rfl, by simp⟩
      | succ i =>
        obtain ⟨z, e1, e2⟩ := h2 i y (by simpa using hy)
        exact ⟨z, by simpa using e1, by rw [e2]; simp; omega⟩
  | .ref _ :: _, _, _, e => by simp [enW] at e
  | .exc _ _ :: _, _, _, e => by simp [enW] at e
  | .clo _ :: _, _, _, e => by simp [enW] at e
  | .clos _ :: _, _, _, e => by simp [enW] at e
def iEnumL (m : SemE) : SemI := fun ρ h => (m ρ h).bind fun x h1 => match x with
  | .d (.list ds) => match enW 0 (ds.map .d) with
    | some us => if us.length ≤ 1000000 then .ok (us, fun _ => True) h1 else .bad
    | none => .bad
  | .ref i => match h1.f i with
    | some (.lst ws) => match enW 0 ws with
      | some us => if us.length ≤ 1000000 then .ok (us, fun h => h.f i = some (.lst ws)) h1 else .bad
      | none => .bad
    | _ => .bad
  | _ => .bad
theorem ite_ok {K : PySem.W.Frag} {ι0 : Io} {H0 : Hp} {a : Addr} {ws us : List W} {chk : AH → Prop} (eu : enW 0 ws = some us) (h : ∀ (ι : Io) (h : AH) (H : Hp), Ext ι0 H0 ι H → RlH G ι h H → chk h → ∃ vs, SqL K H a vs ∧ RepWs G ι H ws vs) : ItOk G (Ite K a) ι0 H0 us chk where
  go := fun ι h1 H i e r c hi => by
    obtain ⟨vs, q, rw⟩ := h ι h1 H e r c
    have hi' : i < vs.length := by
      rw [← rw.length, ← (enW_get eu).1]
      exact hi
    exact ⟨vs, vs[i], q, by simp [hi']⟩
  yld := fun ι h1 H i x H' e r c hi y => by
    obtain ⟨T, x', rfl, nT, rfl, y⟩ := y
    obtain ⟨vs, q, rw⟩ := h ι h1 H e r c
    obtain ⟨l1, l2⟩ := enW_get eu
    have hu : us[i]? = some us[i] := List.getElem?_eq_getElem hi
    obtain ⟨z, e1, e2⟩ := l2 i _ hu
    obtain ⟨v, f1, f2⟩ := Paired.get1 rw e1
    have f3 := y vs q
    rw [f1] at f3
    cases f3
    refine ⟨.fresh nT, r.fresh nT, us[i], hu, ?_⟩
    rw [e2]
    refine .tup (.inl (.inl upd_same)) (.cons ?_ (.cons (RepD.mono (Stb.fresh nT) _ _ f2) .nil))
    have : ((0 + i : Nat) : Int) = (i : Int) := by simp
    rw [this]
    exact .int _
  stop := fun ι h1 H e r c => by
    obtain ⟨vs, q, rw⟩ := h ι h1 H e r c
    exact ⟨vs, q, by rw [← rw.length, (enW_get eu).1]; exact Nat.le_refl _⟩
theorem ji_enumL {p tpos : Pos} {elts : List Expr} {j : Nat} (hK : X.K = G.K) (hg : Gl X "enumerate") (hm : X.mg "enumerate" = none) (ha : JE G X m e) (hs : starEach [e] X.env = [(false, eval e X.env)] := by rfl) : JI G X (iEnumL m) (.Tuple elts j tpos) (.Call (.Name "enumerate" p) [e] [] pos) := fun U t =>
  (pi_enum hg hm (pa_cons (ha U t) pa_nil hs) hs).imp fun σ H R h => by
    obtain ⟨ι, ρ, h0, rh, re, q⟩ := h
    unfold iEnumL at q
    rw [to_bind] at q
    refine ⟨ι, ρ, h0, rh, re, Out.to_mono q (fun x h1 z ι1 v H1 e1 r1 v1 => ?_) fun _ _ _ z => z⟩
    rw [hK]
    split at z
    · rename_i ds
      cases v1 with
      | @lst a o xs _ h1 h2 =>
        split at z
        · rename_i us eu
          split at z
          · rename_i hl
            exact ⟨a, xs, rfl, .inl (.inr ⟨o, h1⟩), z ι1 H1 _ e1 r1 (ite_ok eu fun ι h H x r _ => ⟨xs, .inl (.inr ⟨o, x.st.2 _ _ _ h1⟩), rep_map (RepDs.mono x.st _ _ h2)⟩) (by rw [sizeLine_eq]; show us.length ≤ _; omega)⟩
          · exact z.elim
        · exact z.elim
    · rename_i i
      split at z
      · rename_i ws hi
        split at z
        · rename_i us eu
          obtain ⟨a, hia, ev⟩ := v1
          obtain ⟨b, hib, vs, hb, rw⟩ := r1.ob i _ hi
          rw [hia] at hib
          cases hib
          split at z
          case isFalse => exact z.elim
          rename_i hl
          refine ⟨a, vs, by rw [ev], .inl (.inl hb), z ι1 H1 _ e1 r1 (ite_ok eu fun ι h H x r c => ?_) (by rw [sizeLine_eq]; show us.length ≤ _; omega)⟩
          obtain ⟨b, hib, us, hb, rw'⟩ := r.ob i _ c
          rw [x.up i a hia] at hib
          cases hib
          exact ⟨us, .inl (.inl hb), rw'.up⟩
        · exact z.elim
      · exact z.elim
    · exact z.elim
end
end Q

set_option Elab.async false
set_option maxRecDepth 100000
set_option linter.all false
set_option autoImplicit false
namespace Q
open PySem PySem.Spec PyProof.Rows L2 LamX

theorem ofString_inj {a b : String} (h : Str.ofString a = Str.ofString b) : a = b := by
  rw [Str.ofString_eq_toList, Str.ofString_eq_toList] at h
  have h1 : (a.toList.map Char.toNat) = (b.toList.map Char.toNat) := by
    injection h with h
    simpa using congrArg Array.toList h
  have inj : ∀ l m : List Char, l.map Char.toNat = m.map Char.toNat → l = m := by
    intro l
    induction l with
    | nil => intro m e; cases m with | nil => rfl | cons _ _ => simp at e
    | cons x l ih =>
      intro m e
      cases m with
      | nil => simp at e
      | cons y m =>
        simp only [List.map_cons, List.cons.injEq] at e
        have : x = y := Char.ext (UInt32.toNat_inj.mp e.1)
        rw [this, ih m e.2]
  have := inj _ _ h1
  exact String.ext_iff.mpr (by simpa using this)
theorem ofString_eq {a b : String} : (Str.ofString a = Str.ofString b) ↔ a = b := ⟨ofString_inj, fun h => by rw [h]⟩
theorem ofString_beq (a b : String) : (Str.ofString a == Str.ofString b) = (a == b) := by
  by_cases h : a = b
  · subst h
    simp
  · rw [beq_eq_false_iff_ne.mpr h, beq_eq_false_iff_ne.mpr fun z => h (ofString_inj z)]

/-! ### for -/
open Classical in
noncomputable def forL (chk : AH → Prop) (g : SemG) (b : SemS) : List W → Env' → AH → OutS
  | [], ρ, h => if chk h then .nx ρ h else .bad
  | x :: xs, ρ, h => if chk h then (match g x ρ with
    | some ρ1 => match b ρ1 h with
      | .nx ρ' h' => forL chk g b xs ρ' h'
      | .ct ρ' h' => forL chk g b xs ρ' h'
      | .bk ρ' h' => .nx ρ' h'
      | .rt y h' => .rt y h'
      | .err c fs h' => .err c fs h'
      | .bad => .bad
    | none => .bad) else .bad
noncomputable def sFor (mi : SemI) (g : SemG) (b : SemS) : SemS := fun ρ h => (mi ρ h).st fun p h1 => forL p.2 g b p.1 ρ h1
section
variable {G : Gd} {X : Cx} {pos : Pos}
theorem js_for {mi : SemI} {g : SemG} {sl : List Nat} {mb : SemS} {tg it : Expr} {body : List Stmt} (cg : PassesOwn (model X.prog X.w) X.A X.env X.xe) (hc : X.calm = true) (hi : JI G X mi tg it) (hg : JG G X g sl tg) (hb : JSs G X mb body) (hs : ∀ x, foldedSetIterable it X.env x = pure x := by intro _; rfl) :
    JS G X (sFor mi g mb) (.For tg it body [] pos) := fun U t => by
  obtain ⟨r, pg, kg⟩ := hg
  refine (ps_for cg hc (hi U t) pg (hb U t) hs).imp fun D σ H h => ?_
  obtain ⟨ι, ρ, h0, rh, re, q⟩ := h
  have q := st_to (σ := σ) q
  refine ⟨ι, ρ, h0, rh, re, Out.to_mono q (fun p h1 z ι1 H1 J e1 r1 ok _ => ?_) fun _ _ _ z => z⟩
  obtain ⟨ws, chk⟩ := p
  refine ⟨fun i m σ H => i ≤ ws.length ∧ m = ws.length - i ∧ ∃ (ι : Io) (ρ : Env') (h : AH), Ext ι1 H1 ι H ∧ RlH G ι h H ∧ RlE G ι ρ σ H ∧ stP G ι H U D (forL chk g mb (ws.drop i) ρ h), ⟨ws.length, Nat.zero_le _, rfl, ι1, ρ, h1, .refl, r1, re.mono e1, z.up e1⟩, ?_⟩
  rintro i m σ2 H2 ⟨hi, rfl, ι2, ρ2, h2, e2, r2, re2, q2⟩
  by_cases hlt : i < ws.length
  · rw [List.drop_eq_getElem_cons hlt] at q2
    unfold forL at q2
    split at q2
    · rename_i c2
      refine .inr ⟨ok.go ι2 h2 H2 i e2 r2 c2 hlt, fun σ H => i + 1 ≤ ws.length ∧ ∃ (ι : Io) (ρ : Env') (h : AH), Ext ι1 H1 ι H ∧ RlH G ι h H ∧ RlE G ι ρ σ H ∧ stP G ι H U D (forL chk g mb (ws.drop (i + 1)) ρ h), fun σ' H' z => ⟨ws.length - (i + 1), by omega, z.1, rfl, z.2⟩, fun x H' y => ?_⟩
      obtain ⟨x1, x2, w, x3, x4⟩ := ok.yld ι2 h2 H2 i x H' e2 r2 c2 hlt y
      rw [List.getElem?_eq_getElem hlt] at x3
      cases x3
      split at q2
      · rename_i ρ3 eg
        refine kg ι2 H' _ x ρ2 ρ3 σ2 _ (re2.mono x1) x4 eg fun σ3 re3 _ => ?_
        refine ⟨ι2, ρ3, h2, x2, re3, ?_⟩
        have q2 := q2.up x1
        cases eb : mb ρ3 h2 with
        | nx ρ' h' =>
          rw [eb] at q2
          exact fun ι' σ' H'' x5 r5 re5 => ⟨by omega, ι', ρ', h', (e2.trans x1).trans x5, r5, re5, q2.up x5⟩
        | ct ρ' h' =>
          rw [eb] at q2
          exact fun ι' σ' H'' x5 r5 re5 => ⟨by omega, ι', ρ', h', (e2.trans x1).trans x5, r5, re5, q2.up x5⟩
        | bk ρ' h' => rw [eb] at q2; exact q2
        | rt y h' => rw [eb] at q2; exact q2
        | err c fs h' => rw [eb] at q2; exact q2
        | bad => rw [eb] at q2; exact q2
      · exact q2.elim
    · exact q2.elim
  · have e : i = ws.length := by omega
    subst e
    rw [List.drop_length] at q2
    unfold forL at q2
    split at q2
    · rename_i c2
      exact .inl ⟨ok.stop ι2 h2 H2 e2 r2 c2, q2 ι2 σ2 H2 .refl r2 re2⟩
    · exact q2.elim

/-! ### [e for x in xs if t] -/
def wipR (ρ : Env') : List Nat → Env'
  | [] => ρ
  | v :: vs => (wipR ρ vs).set v none
theorem RlE.wipe {ι : Io} {ρ : Env'} {σ : L2.St} {H : Hp} (r : RlE G ι ρ σ H) : ∀ vs : List Nat, RlE G ι (wipR ρ vs) (L2.wipe σ vs) H
  | [] => r
  | v :: vs => (RlE.wipe r vs).unset
open Classical in
noncomputable def compL (chk : AH → Prop) (g : SemG) (mt : SemT) (me : SemE) (ρ : Env') : List W → AH → Out (List W)
  | [], h => if chk h then .ok [] h else .bad
  | x :: xs, h => if chk h then (match g x ρ with
    | some ρ1 => match mt ρ1 h with
      | .ok true h1 => match me ρ1 h1 with
        | .ok y h2 => match compL chk g mt me ρ xs h2 with
          | .ok ys h3 => .ok (y :: ys) h3
          | _ => .bad
        | _ => .bad
      | .ok false h1 => compL chk g mt me ρ xs h1
      | _ => .bad
    | none => .bad) else .bad
noncomputable def eComp (own : List Nat) (mi : SemI) (g : SemG) (mt : SemT) (me : SemE) : SemE := fun ρ h => (mi ρ h).bind fun p h1 => (compL p.2 g mt me (wipR ρ own) p.1 h1).bind fun ys h2 => .ofOpt ((allD ys).map fun ds => .d (.list ds)) h2
def tYesS : SemT := fun _ h => .ok true h
def JTs (G : Gd) (X : Cx) (m : SemT) (ts : List Expr) : Prop := ∀ U : WX, Takes X U → PTs X ts (rdT G U m)
theorem jts_nil : JTs G X tYesS [] := fun U _ => ⟨fun pins s σ H Q I h => pts_nil.run pins s σ H Q I (by
  obtain ⟨ι, ρ, h0, rh, re, q⟩ := h
  exact okT.here q rh)⟩
theorem jts_one {c : Expr} {m : SemT} (h : JT G X m c) : JTs G X m [c] := fun U t => pts_one (h U t)
theorem compL_len {chk : AH → Prop} {g : SemG} {mt : SemT} {me : SemE} {ρ : Env'} : ∀ {ws : List W} {h h' : AH} {ys : List W}, compL chk g mt me ρ ws h = .ok ys h' → ys.length ≤ ws.length
  | [], h, h', ys, e => by
    unfold compL at e
    split at e
    · cases e
      exact Nat.le_refl _
    · cases e
  | x :: xs, h, h', ys, e => by
    unfold compL at e
    split at e
    · split at e
      · split at e
        · split at e
          · split at e
            · rename_i q
              cases e
              have := compL_len q
              simp only [List.length_cons]
              omega
            · cases e
          · cases e
        · have := compL_len e
          simp only [List.length_cons]
          omega
        · cases e
      · cases e
    · cases e
/-- the loop of a comprehension: acc is what has come so far -/
theorem comp_core {U : WX} {J : It} {ι1 : Io} {H1 : Hp} {ws : List W} {chk : AH → Prop} {g : SemG} {r : TG} {sl own : List Nat} {mt : SemT} {me : SemE} {ρ : Env'} {h1 : AH} {σ : L2.St} {D : Addr} {Qd : Hp → Prop}
    (ok : ItOk G J ι1 H1 ws chk) (hlen : ws.length ≤ sizeLine) (r1 : RlH G ι1 h1 H1) (re : RlE G ι1 ρ σ H1) (hsl : ∀ i ∈ sl, i ∈ own) (nD : H1 D = none)
    (kg : ∀ (ι : Io) (H : Hp) (x : W) (v : V) (ρ ρ' : Env') (σ : L2.St) (Q : L2.St → Hp → Prop), RlE G ι ρ σ H → RepW G ι H x v → g x ρ = some ρ' → (∀ σ', RlE G ι ρ' σ' H → Sets sl σ σ' → Q σ' H) → r v σ H Q)
    (hU : ∀ c d σ H, ¬ U c d σ H) {ys : List W} {h2 : AH} (ev : compL chk g mt me (wipR ρ own) ws h1 = .ok ys h2)
    (hd : ∀ (ι' : Io) (H' : Hp) (vs : List V), Ext ι1 H1 ι' H' → RlH G ι' h2 H' → H' D = some (.lst vs) → RepWs G ι' H' ys vs → (∀ j, ι' j ≠ some D) → Qd H') :
    ∃ W' : Nat → Nat → Hp → Prop, (∃ m, W' 0 m (upd H1 D (.lst []))) ∧ ∀ i m H, W' i m H →
      (J.stop i H ∧ Qd H) ∨ (J.go i H ∧ ∃ Nx : Hp → Prop, (∀ H', Nx H' → ∃ m', m' < m ∧ W' (i + 1) m' H') ∧ ∀ x H', J.yld i H x H' → r x (wipe σ own) H' fun σ2 H2 => wipe σ2 own = wipe σ own ∧ rdT G U mt σ2 H2 fun b H3 =>
        if b = true then rdE G U me σ2 H3 fun y H4 => ∃ acc, H4 D = some (.lst acc) ∧ acc.length < sizeLine ∧ Nx (upd H4 D (.lst (acc ++ [y]))) else Nx H3) := by
  -- the invariant: what has come stands at D, what is left comes out
  refine ⟨fun i m H => i ≤ ws.length ∧ m = ws.length - i ∧ ∃ (ι : Io) (h : AH) (acc : List W) (av : List V) (rest : List W), Ext ι1 H1 ι H ∧ RlH G ι h H ∧ H D = some (.lst av) ∧ RepWs G ι H acc av ∧ acc.length ≤ i ∧ ys = acc ++ rest ∧ compL chk g mt me (wipR ρ own) (ws.drop i) h = .ok rest h2 ∧ ∀ j, ι j ≠ some D,
    ⟨ws.length, Nat.zero_le _, rfl, ι1, h1, [], [], ys, .fresh nD, r1.fresh nD, upd_same, .nil, Nat.zero_le _, rfl, ev, r1.nj nD⟩, ?_⟩
  rintro i m H ⟨hi, rfl, ι, h, acc, av, rest, e1, r2, hD, ra, la, ey, ec, nι⟩
  by_cases hlt : i < ws.length
  · rw [List.drop_eq_getElem_cons hlt] at ec
    unfold compL at ec
    split at ec
    case isFalse => cases ec
    rename_i c2
    refine .inr ⟨ok.go ι h H i e1 r2 c2 hlt, fun H => i + 1 ≤ ws.length ∧ ∃ (ι : Io) (h : AH) (acc : List W) (av : List V) (rest : List W), Ext ι1 H1 ι H ∧ RlH G ι h H ∧ H D = some (.lst av) ∧ RepWs G ι H acc av ∧ acc.length ≤ i + 1 ∧ ys = acc ++ rest ∧ compL chk g mt me (wipR ρ own) (ws.drop (i + 1)) h = .ok rest h2 ∧ ∀ j, ι j ≠ some D,
      fun H' z => ⟨ws.length - (i + 1), by omega, z.1, rfl, z.2⟩, fun x H' y => ?_⟩
    obtain ⟨x1, x2, w, x3, x4⟩ := ok.yld ι h H i x H' e1 r2 c2 hlt y
    rw [List.getElem?_eq_getElem hlt] at x3
    cases x3
    split at ec
    case h_2 => cases ec
    rename_i ρ1 eg
    have keepD : ∀ {ι' : Io} {H'' : Hp}, Ext ι H ι' H'' → H'' D = some (.lst av) := fun e => e.fr D _ hD nι (fun ps z => by cases z)
    have keepN : ∀ {ι' : Io} {H'' : Hp}, Ext ι H ι' H'' → ∀ j, ι' j ≠ some D := fun e j z => by
      rcases e.nw j D z with q | q
      · exact nι j q
      · exact q ⟨_, hD, fun ps z => by cases z⟩
    have e0 := e1.trans x1
    refine kg ι H' _ x _ ρ1 _ _ ((re.mono e0).wipe own) x4 eg fun σ2 re2 se2 => ⟨by rw [se2 own hsl, wipe_idem], ι, ρ1, h, x2, re2, ?_⟩
    cases et : mt ρ1 h with
    | bad => rw [et] at ec; cases ec
    | err c fs h' => rw [et] at ec; cases ec
    | ok b h3 =>
      rw [et] at ec
      intro ι3 H3 e3 r3
      have e03 := x1.trans e3
      cases b with
      | false =>
        dsimp only at ec
        rw [if_neg Bool.false_ne_true]
        exact ⟨hlt, ι3, h3, acc, av, rest, e1.trans e03, r3, keepD e03, ra.mono e03, by omega, ey, ec, keepN e03⟩
      | true =>
        dsimp only at ec
        rw [if_pos rfl]
        refine ⟨ι3, ρ1, h3, r3, re2.mono e3, ?_⟩
        cases ee : me ρ1 h3 with
        | bad => rw [ee] at ec; cases ec
        | err c fs h' => rw [ee] at ec; cases ec
        | ok z h4 =>
          rw [ee] at ec
          dsimp only at ec
          intro ι4 v H4 e4 r4 v4
          have e04 := e03.trans e4
          have d4 := keepD e04
          have n4 := keepN e04
          cases eq : compL chk g mt me (wipR ρ own) (ws.drop (i + 1)) h4 with
          | bad => rw [eq] at ec; cases ec
          | err c fs h' => rw [eq] at ec; cases ec
          | ok zs h5 =>
            rw [eq] at ec
            cases ec
            refine ⟨av, d4, by rw [← ra.length]; omega, hlt, ι4, h4, acc ++ [z], av ++ [v], zs, ?_, ?_, upd_same, ?_, by simp; omega, by rw [ey]; simp, eq, n4⟩
            · -- at D alone something changes, and D was new
              have x5 := e1.trans e04
              exact x5.after (Trk.no nD) (loose_lst d4)
            · exact r4.off n4 (loose_lst d4)
            · refine RepWs.mono0 (Ex0.off (loose_lst d4)) ?_
              have : ∀ {l : List W} {k : List V}, RepWs G ι4 H4 l k → RepWs G ι4 H4 (l ++ [z]) (k ++ [v]) := by
                intro l k p
                induction p with
                | nil => exact .cons v4 .nil
                | cons p1 _ ih => exact .cons p1 ih
              exact this (ra.mono e04)
  · have e : i = ws.length := by omega
    subst e
    rw [List.drop_length] at ec
    unfold compL at ec
    split at ec
    · rename_i c2
      cases ec
      refine .inl ⟨ok.stop ι _ H e1 r2 c2, hd ι H av e1 r2 hD ?_ nι⟩
      rw [ey, List.append_nil]
      exact ra
    · cases ec
/-- where no exception may leave, none does -/
abbrev U0 : WX := fun _ _ _ _ => False
theorem je_comp {elt tg iter : Expr} {ifs : List Expr} {scope : Scope} {own : List (Str × Nat)} {mi : SemI} {g : SemG} {sl : List Nat} {mt : SemT} {me : SemE} (hc : X.calm = true) (hN : X.N.Nodup) (hi : JI G X mi tg iter) (ok : BlkOk X.N X.env.scope scope own) (hsl : ∀ i ∈ sl, i ∈ own.map (·.2))
    (hg : ∃ r : TG, (∀ (s : Shared) (H : Hp) (C : Addr) (cl : List (Str × Addr)) (fp : List Addr), PG (X.blk s H scope (compEnvC scope cl C X.env) fp) tg r) ∧ ∀ (ι : Io) (H : Hp) (x : W) (v : V) (ρ ρ' : Env') (σ : L2.St) (Q : L2.St → Hp → Prop), RlE G ι ρ σ H → RepW G ι H x v → g x ρ = some ρ' → (∀ σ', RlE G ι ρ' σ' H → Sets sl σ σ' → Q σ' H) → r v σ H Q)
    (ht : ∀ (s : Shared) (H : Hp) (C : Addr) (cl : List (Str × Addr)) (fp : List Addr), JTs G (X.blk s H scope (compEnvC scope cl C X.env) fp) mt ifs)
    (he : ∀ (s : Shared) (H : Hp) (C : Addr) (cl : List (Str × Addr)) (fp : List Addr), JE G (X.blk s H scope (compEnvC scope cl C X.env) fp) me elt) (hs : ∀ x, foldedSetIterable iter X.env x = pure x := by intro _; rfl) :
    JE G X (eComp (own.map (·.2)) mi g mt me) (.ListComp elt [⟨tg, iter, ifs, 0⟩] scope pos) := fun U t => by
  obtain ⟨r, pg, kg⟩ := hg
  refine (pe_frz (pe_lc hc hN (hi U t) ok pg (fun s H C cl fp => ht s H C cl fp U0 L2.takes0) (fun s H C cl fp => he s H C cl fp U0 L2.takes0) hs)).imp fun σ H Q h => ?_
  obtain ⟨ι, ρ, h0, rh, re, q⟩ := h
  unfold eComp at q
  rw [to_bind] at q
  refine ⟨ι, ρ, h0, rh, re, Out.to_mono q (fun p h1 z ι1 H1 J e1 r1 jok hl D nD => ?_) fun _ _ _ z => z⟩
  obtain ⟨ws, chk⟩ := p
  dsimp only at z
  cases ec : compL chk g mt me (wipR ρ (own.map (·.2))) ws h1 with
  | bad => rw [ec] at z; exact z.elim
  | err c fs h2 =>
    -- the loop itself never ends so
    exfalso
    have never : ∀ (ws : List W) (h1 : AH), compL chk g mt me (wipR ρ (own.map (·.2))) ws h1 ≠ .err c fs h2 := by
      intro ws
      induction ws with
      | nil =>
        intro h1 e
        unfold compL at e
        split at e <;> cases e
      | cons x xs ih =>
        intro h1 e
        unfold compL at e
        split at e
        · split at e
          · split at e
            · split at e
              · split at e <;> cases e
              · cases e
            · exact ih _ e
            · cases e
          · cases e
        · cases e
    exact never ws h1 ec
  | ok ys h2 =>
    rw [ec] at z
    obtain ⟨w, ew, k⟩ := to_ofOpt z
    cases hd : allD ys with
    | none => rw [hd] at ew; cases ew
    | some ds =>
      rw [hd] at ew
      cases ew
      refine comp_core (U := U0) jok hl r1 (re.mono e1) hsl nD kg (fun _ _ _ _ z => z) ec fun ι' H' vs e2 r2 hD rv nj => .inr ⟨D, vs, rfl, hD, fun o => ?_⟩
      have rd := allD_rep hd rv
      have lo : Loose H' D := loose_lst hD
      exact k ι' _ _ ((e1.trans e2).after (e1.none_back nD) lo (fun ps z => by unfold frzO at z; cases z)) (r2.off nj lo) (.lst upd_same (RepDs.mono (Stb.write lo) _ _ rd))
end
end Q

set_option Elab.async false
set_option maxRecDepth 100000
set_option linter.all false
set_option autoImplicit false
namespace Q
open PySem PySem.Spec PyProof.Rows L2 LamX

/-! ### targets in a comprehension's block -/
def JGB (G : Gd) (X : Cx) (scope : Scope) (g : SemG) (sl : List Nat) (tg : Expr) : Prop := ∃ r : TG, (∀ (s : Shared) (H : Hp) (C : Addr) (cl : List (Str × Addr)) (fp : List Addr), PG (X.blk s H scope (compEnvC scope cl C X.env) fp) tg r) ∧ ∀ (ι : Io) (H : Hp) (x : W) (v : V) (ρ ρ' : Env') (σ : L2.St) (Q : L2.St → Hp → Prop), RlE G ι ρ σ H → RepW G ι H x v → g x ρ = some ρ' → (∀ σ', RlE G ι ρ' σ' H → Sets sl σ σ' → Q σ' H) → r v σ H Q
def JGsB (G : Gd) (X : Cx) (scope : Scope) (gs : SemGs) (sl : List Nat) (ts : List Expr) : Prop := ∃ r : TGs, (∀ (s : Shared) (H : Hp) (C : Addr) (cl : List (Str × Addr)) (fp : List Addr), PGs (X.blk s H scope (compEnvC scope cl C X.env) fp) ts r) ∧ ∀ (ι : Io) (H : Hp) (xs : List W) (vs : List V) (ρ ρ' : Env') (σ : L2.St) (Q : L2.St → Hp → Prop), RlE G ι ρ σ H → RepWs G ι H xs vs → gs xs ρ = some ρ' → (∀ σ', RlE G ι ρ' σ' H → Sets sl σ σ' → Q σ' H) → r vs σ H Q
section
variable {G : Gd} {X : Cx} {pos : Pos} {scope : Scope}
theorem jgb_name {i : Nat} {x : Str} (hN : X.N.Nodup) (hi : X.N[i]? = some x) (hx : ∀ (s : Shared) (H : Hp) (C : Addr) (cl : List (Str × Addr)) (fp : List Addr), Loc (X.blk s H scope (compEnvC scope cl C X.env) fp).env.scope x)
    (hf : ∀ (s : Shared) (H : Hp) (C : Addr) (cl : List (Str × Addr)) (fp : List Addr), (X.blk s H scope (compEnvC scope cl C X.env) fp).fn x = true ∨ (X.blk s H scope (compEnvC scope cl C X.env) fp).env.scope.names.lookup x = some .local) : JGB G X scope (gN i) [i] (.Name x pos) :=
  ⟨gName i, fun s H C cl fp => pg_name (X := X.blk s H scope (compEnvC scope cl C X.env) fp) hN hi (hx s H C cl fp) (hf s H C cl fp), fun ι H x v ρ ρ' σ Q re rv e k => by
    cases e
    exact k _ (re.set rv) (Sets.one σ i _)⟩
theorem jgsb_nil : JGsB G X scope gsNil [] [] := ⟨gNil, fun s H C cl fp => pgs_nil, fun ι H xs vs ρ ρ' σ Q re rv e k => by
  cases rv with
  | nil =>
    cases e
    exact ⟨rfl, k σ re fun _ _ => rfl⟩
  | cons _ _ => cases e⟩
theorem jgsb_cons {g : SemG} {gs : SemGs} {s1 s2 : List Nat} {e : Expr} {es : List Expr} (h1 : JGB G X scope g s1 e) (h2 : JGsB G X scope gs s2 es) (hs : ∀ (C : Addr) (cl : List (Str × Addr)), (assignEach (e :: es) (compEnvC scope cl C X.env)).map (·.2) = assign e (compEnvC scope cl C X.env) :: (assignEach es (compEnvC scope cl C X.env)).map (·.2) := by intros; rfl) : JGsB G X scope (gsCons g gs) (s1 ++ s2) (e :: es) := by
  obtain ⟨r1, p1, k1⟩ := h1
  obtain ⟨r2, p2, k2⟩ := h2
  refine ⟨_, fun s H C cl fp => pgs_cons (p1 s H C cl fp) (p2 s H C cl fp) (hs C cl), fun ι H xs vs ρ ρ' σ Q re rv e k => ?_⟩
  cases rv with
  | nil => cases e
  | cons rx rr =>
    rename_i x v xs vs
    have e' : (g x ρ).bind (gs xs) = some ρ' := e
    cases eg : g x ρ with
    | none => rw [eg] at e'; cases e'
    | some ρ1 =>
      rw [eg] at e'
      exact ⟨v, vs, rfl, k1 ι H x v ρ ρ1 σ _ re rx eg fun σ1 re1 se1 => k2 ι H xs vs ρ1 ρ' σ1 Q re1 rr e' fun σ2 re2 se2 => k σ2 re2 (se1.app se2)⟩
theorem jgb_tup {gs : SemGs} {sl : List Nat} {es : List Expr} {j n : Nat} (hc : X.calm = true) (hK : X.K = G.K) (h : JGsB G X scope gs sl es) (hn : ∀ (C : Addr) (cl : List (Str × Addr)), (assignEach es (compEnvC scope cl C X.env)).length = n := by intros; rfl) (hst : ∀ (C : Addr) (cl : List (Str × Addr)), (assignEach es (compEnvC scope cl C X.env)).findIdx? (·.1) = none := by intros; rfl) : JGB G X scope (gT n gs) sl (.Tuple es j pos) := by
  obtain ⟨r, p, k0⟩ := h
  refine ⟨gTup X.K n r, fun s H C cl fp => pg_tup (X := X.blk s H scope (compEnvC scope cl C X.env) fp) hc (p s H C cl fp) (hn C cl) (hst C cl), fun ι H x v ρ ρ' σ Q re rv e k => ?_⟩
  cases x with
  | d y =>
    cases y with
    | tuple ds =>
      cases rv with
      | @tup a xs _ h1 h2 =>
        have e' : (if ds.length = n then gs (ds.map .d) ρ else none) = some ρ' := e
        by_cases hl : ds.length = n
        · rw [if_pos hl] at e'
          exact ⟨a, xs, rfl, by rw [hK]; exact h1, by rw [h2.length]; exact hl, k0 ι H _ xs ρ ρ' σ Q re (rep_map h2) e' k⟩
        · rw [if_neg hl] at e'
          cases e'
    | _ => cases e
  | _ => cases e
end

/-! ### defs as functions -/
abbrev Fn := List W → AH → Out W
def mkFn (n : Nat) (b : SemS) : Fn := fun ws h => match b (ws.map some ++ List.replicate (n - ws.length) none) h with
  | .nx _ h' => .ok (.d .none) h'
  | .rt x h' => .ok x h'
  | .err c fs h' => .err c fs h'
  | _ => .bad
def spOf (G : Gd) (np : Nat) (fn : Fn) : Sp := fun vs H Q E => vs.length = np ∧ ∃ (ι : Io) (h : AH) (ws : List W), RlH G.bare ι h H ∧ RepWs G.bare ι H ws vs ∧ (fn ws h).to (okP G.bare ι H Q) (erP G.bare ι H E)
theorem RlH.bare {G : Gd} {ι : Io} {h : AH} {H : Hp} (r : RlH G ι h H) : RlH G.bare ι h H := ⟨fun i o hi => by
  obtain ⟨a, h1, h2⟩ := r.ob i o hi
  refine ⟨a, h1, ?_⟩
  cases o <;> exact h2, r.lt, r.inj, r.trk, r.tab⟩
theorem RlH.full {G : Gd} {ι : Io} {h : AH} {H : Hp} (r : RlH G.bare ι h H) : RlH G ι h H := ⟨fun i o hi => by
  obtain ⟨a, h1, h2⟩ := r.ob i o hi
  refine ⟨a, h1, ?_⟩
  cases o <;> exact h2, r.lt, r.inj, r.trk, r.tab⟩
theorem toBare {G : Gd} {ι : Io} {H : Hp} {Q : VK} {E : XK} {o : Out W} (k : o.to (okP G ι H Q) (erP G ι H E)) : o.to (okP G.bare ι H Q) (erP G.bare ι H E) :=
  Out.to_mono k (fun x h z ι' v H' e r rv => z ι' v H' e r.full rv.up) fun c fs h z ι' H' C d e r g x => z ι' H' C d e r.full g x
/-- a def of the module, and the function that it is -/
structure FnX (G : Gd) (X : Cx) (k : Nat) (x : String) (np : Nat) (fn : Fn) : Prop where
  ex : ∃ (f : Addr) (fd : FuncData) (ps : List Str), X.mg (Str.ofString x) = some (.ref f) ∧ PySem.W.keepIn X.K (.ref f) = true ∧ Binds X.K fd ps [] ∧ FnOk X.prog X.w X.K X.mg X.base (L2.CX X.prog X.w) k f fd ps (spOf G np fn)
def eCall (np : Nat) (fn : Fn) (ms : SemA) : SemE := fun ρ h => (ms ρ h).bind fun xs h1 => if xs.all W.flat = true ∧ xs.length = np then fn xs h1 else .bad
section
variable {G : Gd} {X : Cx} {pos p apos : Pos} {e o : Expr} {es : List Expr} {m mo : SemE} {ms : SemA} {k np : Nat} {x : String} {fn : Fn}
theorem sp_ok {U : WX} {σ : L2.St} {Q : VK} {ι1 : Io} {xs : List W} {h1 : AH} {vs : List V} {H1 : Hp} (r1 : RlH G ι1 h1 H1) (v1 : RepWs G ι1 H1 xs vs) (hx : xs.all W.flat = true ∧ xs.length = np) (m1 : (fn xs h1).to (okP G ι1 H1 Q) (erP G ι1 H1 (xk U σ))) : spOf G np fn vs H1 Q (WE U σ) :=
  ⟨by rw [← v1.length]; exact hx.2, ι1, h1, xs, r1.bare, v1.down hx.1, toBare m1⟩
theorem je_call (F : FnX G X k x np fn) (hr : Room k X.A) (hg : Gl X (Str.ofString x)) (ha : JA G X ms (e :: es)) (hdb : (Str.ofString x == ("__debug__" : Str)) = false := by decide) (he : starEach (e :: es) X.env = (false, eval e X.env) :: starEach es X.env := by rfl) (hpl : (backTo pos (starEach es X.env)).any (·.1) = false := by rfl) :
    JE G X (eCall np fn ms) (.Call (.Name (Str.ofString x) p) (e :: es) [] pos) := fun U t => by
  obtain ⟨f, fd, ps, gm, kp, hb, F⟩ := F.ex
  refine (pe_callS F hr hg gm kp hb (fun σ => passAt t σ) (ha U t) hdb he hpl).imp fun σ H Q h => ?_
  refine rdA_bind (k := fun xs h1 => if xs.all W.flat = true ∧ xs.length = np then fn xs h1 else .bad) h fun ι1 xs h1 vs H1 r1 v1 m1 => ?_
  split at m1
  · rename_i hx
    exact sp_ok r1 v1 hx m1
  · exact m1.elim
/-! ### instances -/
def lookS (f : String) : List (String × W) → Option W
  | [] => none
  | (g, w) :: r => if f = g then some w else lookS f r
theorem lookS_rel {F : W → V → Prop} {f : String} : ∀ {fs : List (String × W)} {fvs : List (Str × V)}, Paired (fun (p : String × W) (q : Str × V) => Str.ofString p.1 = q.1 ∧ F p.2 q.2) fs fvs → (lookS f fs = none ∧ fvs.lookup (Str.ofString f) = none) ∨ ∃ w v, lookS f fs = some w ∧ fvs.lookup (Str.ofString f) = some v ∧ F w v
  | _, _, .nil => .inl ⟨rfl, rfl⟩
  | (g, w) :: r, (g', v) :: r', .cons h t => by
    obtain ⟨h1, h2⟩ := h
    dsimp only at h1 h2
    subst h1
    unfold lookS
    rw [List.lookup_cons, ofString_beq]
    by_cases e : f = g
    · subst e
      rw [if_pos rfl, beq_self_eq_true]
      exact .inr ⟨w, v, rfl, rfl, h2⟩
    · rw [if_neg e, beq_eq_false_iff_ne.mpr e]
      exact lookS_rel t
/-- o.f -/
def eFld (c f : String) (mo : SemE) : SemE := fun ρ h => (mo ρ h).bind fun x h1 => match x with
  | .ref i => match h1.f i with
    | some (.ins c' fs) => if c' = c then .ofOpt (lookS f fs) h1 else .bad
    | _ => .bad
  | _ => .bad
theorem je_fld {c f : String} {C : Addr} (hG : G.mg = X.mg) (hm : X.mg (Str.ofString c) = some (.ref C)) (hC : Cls X.K C) (hf : NoAttr X.K C (Str.ofString f)) (ho : JE G X mo o) (hb : attributeBase o (Str.ofString f) X.env (eval o X.env) = eval o X.env := by rfl) : JE G X (eFld c f mo) (.Attribute o (Str.ofString f) pos) := fun U t =>
  (pe_fld (ho U t) hb).imp fun σ H Q h => by
    refine rd_bind h fun ι ι1 ρ x h1 v H1 e1 r1 re1 v1 m1 => ?_
    split at m1
    · split at m1
      · rename_i i _ c' fs hi
        split at m1
        · rename_i ec
          subst ec
          obtain ⟨a, hia, ev⟩ := v1
          obtain ⟨b, hib, C', dx, fvs, b1, b2, b3⟩ := r1.ob i _ hi
          rw [hia] at hib
          cases hib
          rw [hG, hm] at b1
          cases b1
          rcases lookS_rel (f := f) b3 with ⟨e1, _⟩ | ⟨w, u, e1, e2, e3⟩
          · rw [e1] at m1
            exact m1.elim
          · rw [e1] at m1
            exact ⟨a, C, dx, fvs, u, ev, b2, hC, hf, e2, okP.here m1 r1 e3.up⟩
        · exact m1.elim
      · exact m1.elim
    · exact m1.elim
/-- o.f = e -/
def putS (f : String) (w : W) : List (String × W) → List (String × W)
  | [] => [(f, w)]
  | (g, u) :: r => if g = f then (g, w) :: r else (g, u) :: putS f w r
theorem putS_rel {F : W → V → Prop} {f : String} {w : W} {v : V} (h : F w v) : ∀ {fs : List (String × W)} {fvs : List (Str × V)}, Paired (fun (p : String × W) (q : Str × V) => Str.ofString p.1 = q.1 ∧ F p.2 q.2) fs fvs → Paired (fun (p : String × W) (q : Str × V) => Str.ofString p.1 = q.1 ∧ F p.2 q.2) (putS f w fs) (putF (Str.ofString f) v fvs)
  | _, _, .nil => .cons ⟨rfl, h⟩ .nil
  | (g, u) :: r, (g', u') :: r', .cons q t => by
    obtain ⟨h1, h2⟩ := q
    dsimp only at h1 h2
    subst h1
    show Paired _ (if g = f then (g, w) :: r else (g, u) :: putS f w r) (if Str.ofString g = Str.ofString f then (Str.ofString g, v) :: r' else (Str.ofString g, u') :: putF (Str.ofString f) v r')
    by_cases e : g = f
    · subst e
      rw [if_pos rfl, if_pos rfl]
      exact .cons ⟨rfl, h⟩ t
    · rw [if_neg e, if_neg (fun z => e (ofString_inj z))]
      exact .cons ⟨rfl, h2⟩ (putS_rel h t)
def sFldS (c f : String) (mo m : SemE) : SemS := fun ρ h => (m ρ h).st fun w h1 => (mo ρ h1).st fun x h2 => match x with
  | .ref i => match h2.f i with
    | some (.ins c' fs) => if c' = c ∧ w.flat = true ∧ fs.length < 1000 then .nx ρ (h2.set i (.ins c' (putS f w fs))) else .bad
    | _ => .bad
  | _ => .bad
theorem js_fld {c f : String} {C : Addr} {pos' : Pos} (hG : G.mg = X.mg) (hm : X.mg (Str.ofString c) = some (.ref C)) (hC : Cls X.K C) (hf : NoAttr X.K C (Str.ofString f)) (ho : JE G X mo o) (ha : JE G X m e) (hs : swapsWith e (some (.Attribute o (Str.ofString f) pos')) pos.line X.env = pure false := by rfl) : JS G X (sFldS c f mo m) (.Assign [.Attribute o (Str.ofString f) pos'] e pos) := fun U t =>
  (ps_fld (ho U t) (ha U t) hs).imp fun D σ H h => by
    refine rdS_bind (k := fun w ρ h1 => (mo ρ h1).st fun x h2 => match x with
      | .ref i => match h2.f i with
        | some (.ins c' fs) => if c' = c ∧ w.flat = true ∧ fs.length < 1000 then .nx ρ (h2.set i (.ins c' (putS f w fs))) else .bad
        | _ => .bad
      | _ => .bad) h fun ι1 ρ w h1 u H1 r1 re1 u1 q => ?_
    refine ⟨ι1, ρ, h1, r1, re1, Out.to_mono (st_to (σ := σ) q) (fun x h2 z ι2 v H2 e2 r2 v2 => ?_) fun _ _ _ z => z⟩
    split at z
    · split at z
      · rename_i i _ c' fs hi
        split at z
        · rename_i ec
          obtain ⟨rfl, hw, hl⟩ := ec
          obtain ⟨a, hia, ev⟩ := v2
          obtain ⟨b, hib, C', dx, fvs, b1, b2, b3⟩ := r2.ob i _ hi
          rw [hia] at hib
          cases hib
          rw [hG, hm] at b1
          cases b1
          have lo : Loose H2 a := ⟨fun _ z => (by rw [b2] at z; cases z), fun _ _ z => (by rw [b2] at z; cases z), fun _ z => (by rw [b2] at z; cases z), fun _ z => by rw [b2] at z; unfold CodeO at z; cases z⟩
          have x2 : Ext ι2 H2 ι2 (upd H2 a (.ins C dx (putF (Str.ofString f) u fvs))) := .write hia lo
          refine ⟨a, C, dx, fvs, ev, b2, hC, hf, by rw [← b3.length]; exact hl, z ι2 σ _ (e2.trans x2) (r2.write hia lo ?_) (re1.mono (e2.trans x2))⟩
          refine ⟨C, dx, _, by rw [hG]; exact hm, upd_same, ?_⟩
          refine putS_rel (F := RepW G.bare ι2 _) ((u1.down hw).mono (e2.trans x2)) ?_
          exact paired_fs_mono (fun _ _ r => r.mono x2) b3
        · exact z.elim
      · exact z.elim
    · exact z.elim
end
end Q

set_option Elab.async false
set_option maxRecDepth 100000
set_option linter.all false
set_option autoImplicit false
namespace Q
open PySem PySem.Spec PyProof.Rows L2 LamX

/-- a method of the class at C, and the function that it is (the instance first) -/
structure MtX (G : Gd) (X : Cx) (k : Nat) (C : Addr) (m : String) (np : Nat) (fn : Fn) : Prop where
  ex : ∃ (f : Addr) (fd : FuncData) (ps : List Str), Meth X.K C (Str.ofString m) f ∧ Binds X.K fd ps [] ∧ FnOk X.prog X.w X.K X.mg X.base (L2.CX X.prog X.w) k f fd ps (spOf G np fn)
def noS (f : String) (fs : List (String × W)) : Bool := fs.all fun p => p.1 != f
theorem noS_look {f : String} : ∀ {fs : List (String × W)}, noS f fs = true → lookS f fs = none
  | [], _ => rfl
  | (g, w) :: r, h => by
    unfold noS at h
    simp only [List.all_cons, Bool.and_eq_true, bne_iff_ne, ne_eq] at h
    unfold lookS
    rw [if_neg (fun z => h.1 z.symm)]
    exact noS_look h.2
def eMeth (c m : String) (np : Nat) (fn : Fn) (mo : SemE) (ms : SemA) : SemE := fun ρ h => (mo ρ h).bind fun x h1 => match x with
  | .ref i => match h1.f i with
    | some (.ins c' fs) => if c' = c ∧ noS m fs = true then (ms ρ h1).bind fun xs h2 => if xs.all W.flat = true ∧ xs.length + 1 = np then fn (.ref i :: xs) h2 else .bad else .bad
    | _ => .bad
  | _ => .bad
section
variable {G : Gd} {X : Cx} {pos p apos : Pos} {e o : Expr} {es : List Expr} {m mo : SemE} {ms : SemA} {k np : Nat} {c x mt : String} {fn : Fn} {C : Addr}
/-- what a method's call asks, whatever is wished of exceptions -/
def tMethU (C : Addr) (mt : Str) (sp : Sp) (U : WX) (ta : TE) (t : TA) : TE := fun σ H Q => ta σ H fun x H1 => ∃ a dx fs, x = .ref a ∧ H1 a = some (.ins C dx fs) ∧ fs.lookup mt = none ∧ t σ H1 fun vs H2 => sp (x :: vs) H2 Q (WE U σ)
theorem pe_methU {sp : Sp} {U : WX} {ta : TE} {t : TA} {f : Addr} {fd : FuncData} {ps : List Str} {pl : Sem Bool} {mt : Str} (he : PE X o ta) (c : Cls X.K C) (hm : Meth X.K C mt f) (F : FnOk X.prog X.w X.K X.mg X.base (L2.CX X.prog X.w) k f fd ps sp) (hr : Room k X.A) (hb : Binds X.K fd ps []) (tk : Takes X U) (ha : PA X (e :: es) t)
    (hst : starEach (e :: es) X.env = (false, eval e X.env) :: starEach es X.env := by rfl) (hpl : (backTo pos (starEach es X.env)).any (·.1) = false := by rfl)
    (ht : eval (.Call (.Attribute o mt apos) (e :: es) [] pos) X.env = (do
      let obj ← eval o X.env
      standAt apos.atName
      let (g, fst) ← holding [obj] (getMethod obj mt pl)
      callWith pos g fst (backTo pos (starEach (e :: es) X.env)) (backToKw pos (keywordEach [] X.env))) := by rfl) : PE X (.Call (.Attribute o mt apos) (e :: es) [] pos) (tMethU C mt sp U ta t) := by
  constructor
  intro pins s σ H Q I h
  have first := he.run pins s σ H _ I h
  refine PySem.W.methodCall_KW (pl := pl) (thn first fun u s1 hu => ?_) ht
  obtain ⟨x, H1, I1, rx, a, dx, fs, ex, ea, l, q⟩ := hu
  subst ex
  cases rx
  refine getmeth_ok I1 ea c hm l ?_
  have more := ha.run pos pins s1 σ H1 _ I1 q
  refine PySem.W.callWith_K (first := [.ref a]) (h₀ := X.base) I.ok.mod.kin hm.kp (thn more fun us s2 hv => ?_) hst hpl
  obtain ⟨vs, H2, I2, r, q2⟩ := hv
  exact ⟨I2.kIn, run_fnS (E := WE U) (us := .ref a :: us) (vs := .ref a :: vs) F hr hb (passAt tk σ) I2 (.cons rfl r) q2⟩
theorem pe_methU0 {sp : Sp} {U : WX} {ta : TE} {f : Addr} {fd : FuncData} {ps : List Str} {pl : Sem Bool} {mt : Str} (he : PE X o ta) (c : Cls X.K C) (hm : Meth X.K C mt f) (F : FnOk X.prog X.w X.K X.mg X.base (L2.CX X.prog X.w) k f fd ps sp) (hr : Room k X.A) (hb : Binds X.K fd ps []) (tk : Takes X U)
    (ht : eval (.Call (.Attribute o mt apos) [] [] pos) X.env = (do
      let obj ← eval o X.env
      standAt apos.atName
      let (g, fst) ← holding [obj] (getMethod obj mt pl)
      callWith pos g fst (backTo pos (starEach [] X.env)) (backToKw pos (keywordEach [] X.env))) := by rfl) : PE X (.Call (.Attribute o mt apos) [] [] pos) (tMethU C mt sp U ta tNil) := by
  constructor
  intro pins s σ H Q I h
  have first := he.run pins s σ H _ I h
  refine PySem.W.methodCall_KW (pl := pl) (thn first fun u s1 hu => ?_) ht
  obtain ⟨x, H1, I1, rx, a, dx, fs, ex, ea, l, q⟩ := hu
  subst ex
  cases rx
  refine getmeth_ok I1 ea c hm l ?_
  exact PySem.W.callWith_K0 (first := [.ref a]) I1.kIn hm.kp (run_fnS (E := WE U) (us := [.ref a]) (vs := [.ref a]) F hr hb (passAt tk σ) I1 (.cons rfl .nil) q)
/-- the instance, read off -/
theorem meth_red {U : WX} {σ : L2.St} {H : Hp} {Q : VK} {t : TA} (hG : G.mg = X.mg) (hm : X.mg (Str.ofString c) = some (.ref C)) (h : rdE G U (eMeth c mt np fn mo ms) σ H Q)
    (ht : ∀ (ι1 : Io) (ρ : Env') (h1 : AH) (H1 : Hp) (i : Nat) (a : Addr), RlH G ι1 h1 H1 → RlE G ι1 ρ σ H1 → ι1 i = some a → ((ms ρ h1).bind fun xs h2 => if xs.all W.flat = true ∧ xs.length + 1 = np then fn (.ref i :: xs) h2 else .bad).to (okP G ι1 H1 Q) (erP G ι1 H1 (xk U σ)) → t σ H1 fun vs H2 => spOf G np fn (.ref a :: vs) H2 Q (WE U σ)) : tMethU C (Str.ofString mt) (spOf G np fn) U (rdE G U mo) t σ H Q := by
  refine rd_bind h fun ι ι1 ρ x h1 v H1 e1 r1 re1 v1 m1 => ?_
  split at m1
  · split at m1
    · rename_i i _ c' fs hi
      split at m1
      · rename_i ec
        obtain ⟨rfl, hn⟩ := ec
        obtain ⟨a, hia, ev⟩ := v1
        obtain ⟨b, hib, C', dx, fvs, b1, b2, b3⟩ := r1.ob i _ hi
        rw [hia] at hib
        cases hib
        rw [hG, hm] at b1
        cases b1
        subst ev
        have hl : fvs.lookup (Str.ofString mt) = none := by
          rcases lookS_rel (f := mt) b3 with ⟨_, e2⟩ | ⟨w, u, e2, _, _⟩
          · exact e2
          · rw [noS_look hn] at e2
            cases e2
        exact ⟨a, dx, fvs, rfl, b2, hl, ht ι1 ρ h1 H1 i a r1 re1 hia m1⟩
      · exact m1.elim
    · exact m1.elim
  · exact m1.elim
theorem je_meth {pl : Sem Bool} (hG : G.mg = X.mg) (hm : X.mg (Str.ofString c) = some (.ref C)) (hC : Cls X.K C) (F : MtX G X k C mt np fn) (hr : Room k X.A) (ho : JE G X mo o) (ha : JA G X ms (e :: es))
    (hst : starEach (e :: es) X.env = (false, eval e X.env) :: starEach es X.env := by rfl) (hpl : (backTo pos (starEach es X.env)).any (·.1) = false := by rfl)
    (ht : eval (.Call (.Attribute o (Str.ofString mt) apos) (e :: es) [] pos) X.env = (do
      let obj ← eval o X.env
      standAt apos.atName
      let (g, fst) ← holding [obj] (getMethod obj (Str.ofString mt) pl)
      callWith pos g fst (backTo pos (starEach (e :: es) X.env)) (backToKw pos (keywordEach [] X.env))) := by rfl) : JE G X (eMeth c mt np fn mo ms) (.Call (.Attribute o (Str.ofString mt) apos) (e :: es) [] pos) := fun U t => by
  obtain ⟨f, fd, ps, me, hb, F⟩ := F.ex
  refine (pe_methU (ho U t) hC me F hr hb t (ha U t) hst hpl ht).imp fun σ H Q h => meth_red hG hm h fun ι1 ρ h1 H1 i a r1 re1 hia m1 => ?_
  rw [to_bind] at m1
  refine ⟨ι1, ρ, h1, r1, re1, Out.to_mono m1 (fun xs h2 z ι2 vs H2 e2 r2 v2 => ?_) fun _ _ _ z => z⟩
  split at z
  · rename_i hx
    refine sp_ok r2 (.cons (show RepW G ι2 H2 (.ref i) (.ref a) from ⟨a, e2.up i a hia, rfl⟩) v2) ⟨?_, by simpa using hx.2⟩ (toUpP e2 z)
    simp only [List.all_cons, Bool.and_eq_true]
    exact ⟨rfl, hx.1⟩
  · exact z.elim
theorem je_meth0 {pl : Sem Bool} (hG : G.mg = X.mg) (hm : X.mg (Str.ofString c) = some (.ref C)) (hC : Cls X.K C) (F : MtX G X k C mt np fn) (hr : Room k X.A) (ho : JE G X mo o)
    (ht : eval (.Call (.Attribute o (Str.ofString mt) apos) [] [] pos) X.env = (do
      let obj ← eval o X.env
      standAt apos.atName
      let (g, fst) ← holding [obj] (getMethod obj (Str.ofString mt) pl)
      callWith pos g fst (backTo pos (starEach [] X.env)) (backToKw pos (keywordEach [] X.env))) := by rfl) : JE G X (eMeth c mt np fn mo aNil) (.Call (.Attribute o (Str.ofString mt) apos) [] [] pos) := fun U t => by
  obtain ⟨f, fd, ps, me, hb, F⟩ := F.ex
  refine (pe_methU0 (ho U t) hC me F hr hb t ht).imp fun σ H Q h => meth_red hG hm h fun ι1 ρ h1 H1 i a r1 re1 hia m1 => ?_
  have m1 : (if ([] : List W).all W.flat = true ∧ ([] : List W).length + 1 = np then fn [.ref i] h1 else .bad).to (okP G ι1 H1 Q) (erP G ι1 H1 (xk U σ)) := m1
  split at m1
  · rename_i hx
    exact sp_ok r1 (.cons (show RepW G ι1 H1 (.ref i) (.ref a) from ⟨a, hia, rfl⟩) .nil) ⟨rfl, by simpa using hx.2⟩ m1
  · exact m1.elim
/-- f() -/
theorem je_call0 (F : FnX G X k x 0 fn) (hr : Room k X.A) (hg : Gl X (Str.ofString x)) (hdb : (Str.ofString x == ("__debug__" : Str)) = false := by decide) : JE G X (eCall 0 fn aNil) (.Call (.Name (Str.ofString x) p) [] [] pos) := fun U t => by
  obtain ⟨f, fd, ps, gm, kp, hb, F⟩ := F.ex
  constructor
  intro pins s σ H Q I h
  obtain ⟨ι, ρ, h0, rh, re, q⟩ := h
  refine wpAny_Call_Name_kw (ld_glob I hg gm ?_ hdb)
  refine PySem.W.callWith_K0 I.kIn kp (run_fnS (E := WE U) (us := []) (vs := []) F hr hb (passAt t σ) I .nil ?_)
  have q : (if ([] : List W).all W.flat = true ∧ ([] : List W).length = 0 then fn [] h0 else .bad).to (okP G ι H Q) (erP G ι H (xk U σ)) := q
  rw [if_pos ⟨rfl, rfl⟩] at q
  exact sp_ok rh .nil ⟨rfl, rfl⟩ q
/-- C(..) -/
def eMake (c : String) (np : Nat) (fn : Fn) (ms : SemA) : SemE := fun ρ h => (ms ρ h).bind fun xs h1 => if xs.all W.flat = true ∧ xs.length + 1 = np then (fn (.ref h1.n :: xs) (h1.new (.ins c []))).bind fun r h2 => match r with
  | .d .none => .ok (.ref h1.n) h2
  | _ => .bad else .bad
/-- a class of the program that can be made, and its __init__ as a function -/
structure MkX (G : Gd) (X : Cx) (k : Nat) (c : String) (C : Addr) (np : Nat) (fn : Fn) : Prop where
  gm : X.mg (Str.ofString c) = some (.ref C)
  ex : ∃ (f : Addr) (fd : FuncData) (ps : List Str), Mk X.K C f ∧ Binds X.K fd ps [] ∧ FnOk X.prog X.w X.K X.mg X.base (L2.CX X.prog X.w) k f fd ps (spOf G np fn)
theorem run_makeU {pins : List (Addr × Obj)} {σ : L2.St} {H : Hp} {s : Shared} {Q : VK} {us : List Value} {vs : List V} {f : Addr} {fd : FuncData} {ps : List Str} {sp : Sp} {U : WX} (M : Mk X.K C f) (F : FnOk X.prog X.w X.K X.mg X.base (L2.CX X.prog X.w) k f fd ps sp) (hr : Room (k + 1) X.A) (hb : Binds X.K fd ps [])
    (tk : Takes X U) (I : Inv X pins σ H s) (r : Vals vs us) (h : ∀ x dx, H x = none → H dx = none → dx ≠ x → sp (.ref x :: vs) (upd (upd H dx (.own x)) x (.ins C dx [])) (fun v H2 => v = .non ∧ Q (.ref x) H2) (WE U σ)) :
    wpAny (model X.prog X.w) X.A (call (.ref C) us) (EP X pins σ Q) X.xe s := by
  have n1 := I.hok.fresh (Nat.le_succ s.heap.objs.size)
  have n0 := I.hok.fresh (Nat.le_refl s.heap.objs.size)
  have hq := h _ _ n1 n0 (Nat.ne_of_lt (Nat.lt_succ_self _))
  have I2 := Inv.made (C := C) I
  have r2 : Vals (V.ref (s.heap.objs.size + 1) :: vs) (Value.ref (s.heap.objs.size + 1) :: us) := .cons rfl r
  have hl : (Value.ref (s.heap.objs.size + 1) :: us).length = ps.length := by
    rw [← r2.length]
    exact F.len _ _ _ _ hq
  have bd := hb _ (Value.ref (s.heap.objs.size + 1) :: us) I2.kIn (by rw [List.append_nil]; exact hl)
  rw [List.append_nil] at bd
  have run := F.run _ X.stack _ _ ⟨Value.ref (s.heap.objs.size + 1) :: us, []⟩ _ _ _ (WE U σ) (hr.make C us []) (I2.env0.make C us []) bd r2 hq
  refine wpAny_call (make_map (f := f) I.kIn M.makes M.init (beq_iff_eq.mp M.fn) (codeAny_mono run fun r s' hq' => ?_))
  cases r with
  | error e => exact passAt tk σ pins _ _ e s' I2 hq'
  | ok fl =>
    cases fl with
    | ret u =>
      obtain ⟨v, H', I3, rv, ev, q3⟩ := I2.after hq'
      subst ev
      exact ⟨rv, V.ref (s.heap.objs.size + 1), H', I3, rfl, q3⟩
    | next => exact False.elim hq'
    | brk => exact False.elim hq'
    | cont => exact False.elim hq'
theorem make_red {U : WX} {σ : L2.St} {Q : VK} {xs : List W} {vs : List V} {ι1 : Io} {h1 : AH} {H1 : Hp} (hG : G.mg = X.mg) (gm : X.mg (Str.ofString c) = some (.ref C)) (r1 : RlH G ι1 h1 H1) (v1 : RepWs G ι1 H1 xs vs) (m1 : (if xs.all W.flat = true ∧ xs.length + 1 = np then (fn (.ref h1.n :: xs) (h1.new (.ins c []))).bind fun r h2 => match r with
  | .d .none => .ok (.ref h1.n) h2
  | _ => .bad else .bad).to (okP G ι1 H1 Q) (erP G ι1 H1 (xk U σ))) : ∀ x dx, H1 x = none → H1 dx = none → dx ≠ x → spOf G np fn (.ref x :: vs) (upd (upd H1 dx (.own x)) x (.ins C dx [])) (fun v H2 => v = .non ∧ Q (.ref x) H2) (WE U σ) := by
  intro x dx nx nd ne
  split at m1
  case isFalse => exact m1.elim
  rename_i hx
  have nx' : (upd H1 dx (.own x)) x = none := by rw [upd_ne (Ne.symm ne)]; exact nx
  have e2 : Ext ι1 H1 (Io.new ι1 h1.n x) (upd (upd H1 dx (.own x)) x (.ins C dx [])) := (Ext.fresh nd).trans ((r1.fresh nd).newExt nx')
  have r2 : RlH G (Io.new ι1 h1.n x) (h1.new (.ins c [])) (upd (upd H1 dx (.own x)) x (.ins C dx [])) := (r1.fresh nd).new nx' ⟨C, dx, [], by rw [hG]; exact gm, upd_same, .nil⟩
  rw [to_bind] at m1
  refine ⟨by rw [List.length_cons, ← v1.length]; exact hx.2, _, h1.new (.ins c []), .ref h1.n :: xs, r2.bare, .cons ⟨x, Io.new_same, rfl⟩ ((v1.down hx.1).mono e2), Out.to_mono m1 (fun r h2 z ι3 v H3 e3 r3 v3 => ?_) fun c' fs h2 z ι3 H3 D d e3 r3 g3 x3 => z ι3 H3 D d (e2.trans e3) r3.full g3 x3⟩
  split at z
  · cases v3
    exact ⟨rfl, z ι3 _ H3 (e2.trans e3) r3.full ⟨x, e3.up _ _ Io.new_same, rfl⟩⟩
  · exact z.elim
theorem je_make (M : MkX G X k c C np fn) (hG : G.mg = X.mg) (hr : Room (k + 1) X.A) (hg : Gl X (Str.ofString c)) (ha : JA G X ms (e :: es)) (hdb : (Str.ofString c == ("__debug__" : Str)) = false := by decide) (he : starEach (e :: es) X.env = (false, eval e X.env) :: starEach es X.env := by rfl) (hpl : (backTo pos (starEach es X.env)).any (·.1) = false := by rfl) :
    JE G X (eMake c np fn ms) (.Call (.Name (Str.ofString c) p) (e :: es) [] pos) := fun U t => by
  obtain ⟨f, fd, ps, mk, hb, F⟩ := M.ex
  constructor
  intro pins s σ H Q I h
  have h' : rdA G U ms σ H fun vs H1 => ∀ x dx, H1 x = none → H1 dx = none → dx ≠ x → spOf G np fn (.ref x :: vs) (upd (upd H1 dx (.own x)) x (.ins C dx [])) (fun v H2 => v = .non ∧ Q (.ref x) H2) (WE U σ) :=
    rdA_bind h fun ι1 xs h1 vs H1 r1 v1 m1 => make_red hG M.gm r1 v1 m1
  refine wpAny_Call_Name_kw (ld_glob I hg M.gm ?_ hdb)
  have args := (ha U t).run pos pins s σ H _ I h'
  refine PySem.W.callWith_K (h₀ := X.base) I.ok.mod.kin mk.kp (thn args fun us s1 hv => ?_) he hpl
  obtain ⟨vs, H1, I1, r, q⟩ := hv
  exact ⟨I1.kIn, run_makeU mk F hr hb t I1 r q⟩
theorem je_make0 (M : MkX G X k c C 1 fn) (hG : G.mg = X.mg) (hr : Room (k + 1) X.A) (hg : Gl X (Str.ofString c)) (hdb : (Str.ofString c == ("__debug__" : Str)) = false := by decide) : JE G X (eMake c 1 fn aNil) (.Call (.Name (Str.ofString c) p) [] [] pos) := fun U t => by
  obtain ⟨f, fd, ps, mk, hb, F⟩ := M.ex
  constructor
  intro pins s σ H Q I h
  obtain ⟨ι, ρ, h0, rh, re, q⟩ := h
  refine wpAny_Call_Name_kw (ld_glob I hg M.gm ?_ hdb)
  exact PySem.W.callWith_K0 I.kIn mk.kp (run_makeU (us := []) (vs := []) mk F hr hb t I .nil (make_red (xs := []) hG M.gm rh .nil q))
end

/-! ### a def of the text, from its body -/
theorem fn_ok {G : Gd} {P : Program} {w : World} {K : PySem.W.Frag} {mg : Str → Option Value} {base : Heap} {x qual : Str} {st : Stmt} {f : Addr} {fd : FuncData} {N ps : List Str} {k np n : Nat} {b : SemS} (F : Fun K x qual st f fd) (S : FnScope N ps (defScope st)) (hn : N.length = n) (hp : ps.length = np) (hnp : np ≤ n)
    (hbody : ∀ (cdv : Value) (A : Around) (outer : List Env) (s : Shared) (H : Hp) (E : XK), Room k (A.deeper (envOfC qual (defScope st) s.heap.objs.size f cdv)) → JSs G.bare (cxOf (L2.CX P w) P w K mg base N qual (defScope st) f cdv A outer s H E) b (defBody st)) : FnOk P w K mg base (L2.CX P w) (k + 1) f fd ps (spOf G np (mkFn n b)) := by
  refine F.okX S (fun vs H Q E h => by rw [hp]; exact h.1) fun cdv A outer s H vs Q E hr h => ?_
  obtain ⟨hl, ι, h0, ws, rh, rw0, q⟩ := h
  refine ⟨_, hbody cdv A outer s H E hr (fun c d _ H' => E c d H') (takes_of rfl rfl rfl rfl), ι, ws.map some ++ List.replicate (n - ws.length) none, h0, rh, ⟨?_, fun i y hy => ?_⟩, ?_⟩
  · unfold L2.start
    rw [List.length_append, List.length_append, List.length_map, List.length_map, List.length_replicate, List.length_replicate, rw0.length, hn]
  · have hi : i < ws.length := by
      by_cases hi : i < ws.length
      · exact hi
      · rw [List.getElem?_append_right (by simpa using hi), List.getElem?_replicate] at hy
        split at hy <;> cases hy
    rw [List.getElem?_append_left (by simpa using hi), List.getElem?_map] at hy
    cases e : ws[i]? with
    | none => rw [e] at hy; cases hy
    | some z =>
      rw [e] at hy
      cases hy
      obtain ⟨v, e1, r1⟩ := Paired.get1 rw0 e
      refine ⟨v, ?_, r1⟩
      unfold L2.start
      rw [List.getElem?_append_left (by rw [List.length_map, ← rw0.length]; exact hi), List.getElem?_map, e1]
      rfl
  · unfold mkFn at q
    cases e : b (ws.map some ++ List.replicate (n - ws.length) none) h0 with
    | nx ρ' h' =>
      rw [e] at q
      exact fun ι' σ' H' e1 r1 _ => q ι' .non H' e1 r1 .non
    | rt y h' =>
      rw [e] at q
      exact fun ι' v H' e1 r1 v1 => q ι' v H' e1 r1 v1
    | err c fs h' =>
      rw [e] at q
      exact fun ι' σ' H' C d e1 r1 g x1 => q ι' H' C d e1 r1 g x1
    | bk ρ' h' => rw [e] at q; exact q.elim
    | ct ρ' h' => rw [e] at q; exact q.elim
    | bad => rw [e] at q; exact q.elim
end Q

set_option Elab.async false
set_option maxRecDepth 100000
set_option linter.all false
set_option autoImplicit false
set_option maxHeartbeats 4000000
namespace Q
open PySem PySem.Spec PyProof.Rows L2 LamX
open Sem (wp)

/-! ### dicts whose keys are whole numbers, texts, None and tuples of such, mixed -/
section
variable {prog : Program} {w : World} {A : Around} {E : Value → Shared → Prop} {s : Shared}
/-- the value v is the key k -/
def KeyV (h : Heap) (k : NestedKey) (v : Value) : Prop := NestedIs h k v ∧ k.depth ≤ 8
theorem KeyV.inj {h : Heap} {a b : NestedKey} {v : Value} (x : KeyV h a v) (y : KeyV h b v) : a = b := NestedIs.inj _ _ _ x.1 y.1
theorem KeyV.eqB {a b : NestedKey} {u v : Value} {Q : Bool → Shared → Prop} (hu : A.units + 8 < cLine) (x : KeyV s.heap a u) (y : KeyV s.heap b v) (h : Q (decide (a = b)) s) : wpAny (model prog w) A (eqBool u v) Q E s :=
  eqAt_key a b A s u v x.1 y.1 (by have := x.2; omega) _ _ _ _ (by rw [← NestedKey.decide_eq]; exact h)
theorem KeyV.quiet {a : NestedKey} {u : Value} {Q : Bool → Shared → Prop} (x : KeyV s.heap a u) (h : Q true s) : wpAny (model prog w) A (eqIsQuiet 8 u) Q E s := quiet_key a u 8 s x.1 x.2 A E Q h
/-- the entries es bear the keys ks -/
structure Ents (w : World) (h : Heap) (es : Array DictEntry) (ks : List NestedKey) : Prop where
  len : es.size = ks.length
  at_ : ∀ (j : Nat) (hj : j < es.size), ∃ k, ks[j]? = some k ∧ KeyV h k es[j].key ∧ es[j].hash = k.hash w
  nd : ks.Nodup
theorem nodup_ix' : ∀ {ks : List NestedKey}, ks.Nodup → ∀ {i j : Nat} {k : NestedKey}, ks[i]? = some k → ks[j]? = some k → i = j
  | [], _, _, _, _, h1, _ => by simp at h1
  | a :: ks, n, 0, 0, _, _, _ => rfl
  | a :: ks, n, 0, j + 1, k, h1, h2 => by
    simp at h1 h2
    subst h1
    exact absurd (List.mem_of_getElem? h2) (List.nodup_cons.mp n).1
  | a :: ks, n, i + 1, 0, k, h1, h2 => by
    simp at h1 h2
    subst h2
    exact absurd (List.mem_of_getElem? h1) (List.nodup_cons.mp n).1
  | a :: ks, n, i + 1, j + 1, k, h1, h2 => by
    simp at h1 h2
    rw [nodup_ix' (List.nodup_cons.mp n).2 h1 h2]
theorem tells_not {key : Value} {k : NestedKey} {stored : List Value} {Q : Bool → Shared → Prop} (hk : KeyV s.heap k key) (hst : ∀ v ∈ stored, ∃ k', KeyV s.heap k' v) (h : Q false s) : wpAny (model prog w) A (tableMayTell key stored) Q E s := by
  unfold tableMayTell
  split
  · exact wpAny_pure h
  · refine wpAny_bind (hk.quiet ?_)
    rw [if_neg (by decide)]
    refine wpAny_bind ?_
    refine wpAny_forIn_list _ (fun rest r s' => s' = s ∧ r = (none, ()) ∧ ∀ v ∈ rest, ∃ k', KeyV s.heap k' v) _ ?_ ?_ _ _ ⟨rfl, rfl, hst⟩
    · rintro x rest r s' ⟨rfl, rfl, hr⟩
      obtain ⟨k', hb⟩ := hr x List.mem_cons_self
      refine wpAny_bind (hb.quiet ?_)
      rw [if_neg (by decide)]
      exact wpAny_pure ⟨rfl, rfl, fun v hv => hr v (List.mem_cons_of_mem _ hv)⟩
    · rintro r s' ⟨rfl, rfl, _⟩
      exact wpAny_pure h
/-- the place of a key among the entries, or none -/
theorem find_mixed {d : Addr} {o : Obj} {es : Array DictEntry} {ep : Nat} {ks : List NestedKey} {k : NestedKey} {key : Value} {Q : Option Nat → Shared → Prop} (hu : A.units + 8 < cLine) (hkey : KeyV s.heap k key) (ho : s.heap.get? d = some o) (hd : o.data = .dict es ep) (T : Ents w s.heap es ks)
    (hnone : (∀ j : Nat, ks[j]? ≠ some k) → Q none s) (hsome : ∀ j : Nat, ks[j]? = some k → Q (some j) s) : wpAny (model prog w) A (dictFind d key (k.hash w)) Q E s := by
  have hashOf : ∀ j : Nat, ks[j]? = some k → ((es[j]?.map (·.hash)) == some (k.hash w)) = true := by
    intro j hj
    have hl : j < es.size := by
      rw [T.len]
      exact (List.getElem?_eq_some_iff.mp hj).1
    obtain ⟨k', h1, _, h3⟩ := T.at_ j hl
    rw [h1] at hj
    cases hj
    rw [Array.getElem?_eq_getElem hl, Option.map_some, h3]
    simp
  have storedKey : ∀ v ∈ (placesWithHash es.size (fun i => es[i]?.map (·.hash)) (k.hash w)).filterMap (fun i => es[i]?.map (·.key)), ∃ k', KeyV s.heap k' v := by
    intro v hv
    obtain ⟨i, _, hi⟩ := List.mem_filterMap.mp hv
    cases hei : es[i]? with
    | none => rw [hei] at hi; cases hi
    | some e =>
      rw [hei] at hi
      obtain rfl : e.key = v := by simpa using hi
      obtain ⟨hl, rfl⟩ := Array.getElem?_eq_some_iff.mp hei
      obtain ⟨k', _, h2, _⟩ := T.at_ i hl
      exact ⟨k', h2⟩
  -- all scalars: the plain walk
  have plain : wpAny (model prog w) A (dictWalkPlain d key (k.hash w) es (placesWithHash es.size (fun i => es[i]?.map (·.hash)) (k.hash w))) Q E s := by
    refine wpAny_bind ?_
    refine wpAny_forIn_list _ (fun rest b s' => s' = s ∧ b = (none, ()) ∧ ∃ i, rest = (List.range' i (es.size - i)).filter (fun i => (es[i]?.map (·.hash)) == some (k.hash w)) ∧ i ≤ es.size ∧ ∀ j : Nat, j < i → ks[j]? ≠ some k) _ ?_ ?_ _ _
      ⟨rfl, rfl, 0, by rw [placesWithHash, List.range_eq_range', Nat.sub_zero], Nat.zero_le _, fun _ h => absurd h (Nat.not_lt_zero _)⟩
    · rintro x rest b s' ⟨rfl, rfl, i, hr, hi, hno⟩
      obtain ⟨hix, hxn, hpx, hskip, hrest⟩ := filter_range'_cons _ _ _ _ _ hr.symm
      have hlt : x < es.size := by omega
      obtain ⟨k', q1, q2, q3⟩ := T.at_ x hlt
      have below : ∀ j : Nat, j < x → ks[j]? ≠ some k := fun j hj e => by
        rcases Nat.lt_or_ge j i with h | h
        · exact hno j h e
        · have z := hskip j h hj
          rw [hashOf j e] at z
          cases z
      have hnext : ¬ k' = k → ∃ i, rest = (List.range' i (es.size - i)).filter (fun i => (es[i]?.map (·.hash)) == some (k.hash w)) ∧ i ≤ es.size ∧ ∀ j : Nat, j < i → ks[j]? ≠ some k := fun hne =>
        ⟨x + 1, by rw [hrest]; congr 2; omega, hlt, fun j hj e => by
          rcases Nat.lt_or_ge j x with h | h
          · exact below j h e
          · have : j = x := by omega
            subst this
            rw [q1] at e
            exact hne (Option.some.inj e)⟩
      simp only [Array.getElem?_eq_getElem hlt]
      by_cases hh : (es[x].hash == k.hash w) = true
      · rw [if_pos hh]
        refine wpAny_bind (wpAny_dictEpoch ho hd (wpAny_bind (KeyV.eqB hu q2 hkey (wpAny_bind (wpAny_dictEpoch ho hd ?_)))))
        show wpAny _ _ (if (ep != ep) = true then _ else _) _ E _
        rw [if_neg (by simp)]
        by_cases hkk : k' = k
        · rw [decide_eq_true hkk]
          exact wpAny_bind (wpAny_rule (wpAny_pure (wpAny_pure (hsome x (by rw [q1, hkk])))))
        · rw [decide_eq_false hkk]
          exact wpAny_bind (wpAny_rule (wpAny_pure ⟨rfl, rfl, hnext hkk⟩))
      · rw [if_neg hh]
        refine wpAny_pure ⟨rfl, rfl, hnext ?_⟩
        intro hkk
        rw [q3, hkk] at hh
        simp at hh
    · rintro b s' ⟨rfl, rfl, i, hr, hi, hno⟩
      refine wpAny_pure (hnone fun j e => ?_)
      rcases Nat.lt_or_ge j i with h | h
      · exact hno j h e
      · have hl : j < es.size := by
          rw [T.len]
          exact (List.getElem?_eq_some_iff.mp e).1
        have z := List.filter_eq_nil_iff.mp hr.symm j (List.mem_range'_1.mpr ⟨h, by omega⟩)
        exact z (hashOf j e)
  have changed : ¬ (es.any fun e => e.key == key && e.hash != k.hash w) = true := by
    rw [← Array.any_toList, List.any_eq_true]
    rintro ⟨e, hin, hc⟩
    obtain ⟨j, hj, rfl⟩ := Array.mem_iff_getElem.mp (Array.mem_toList_iff.mp hin)
    obtain ⟨k', _, h2, h3⟩ := T.at_ j hj
    simp only [Bool.and_eq_true, beq_iff_eq, bne_iff_ne, ne_eq] at hc
    rw [hc.1] at h2
    exact hc.2 (by rw [h3, h2.inj hkey])
  -- texts alone: by value
  have texts : ∀ (x : Str) (t : Tok), key = .str x t → (es.all fun e => isExactStrKey e.key) = true → wpAny (model prog w) A (foundByValue d key es x) Q E s := by
    intro x t ek hall
    have ktext : k = .text x := by
      rw [ek] at hkey
      exact hkey.inj ⟨.text x t, Nat.zero_le _⟩
    have strAt : ∀ (j : Nat) (hj : j < es.size), es[j].key.isStr x = true ↔ ks[j]? = some k := by
      intro j hj
      obtain ⟨k', h1, h2, _⟩ := T.at_ j hj
      have hs : isExactStrKey es[j].key = true := by
        rw [← Array.all_toList, List.all_eq_true] at hall
        exact hall _ (Array.mem_toList_iff.mpr (Array.getElem_mem hj))
      cases ekey : es[j].key with
      | str y u =>
        have ky : k' = .text y := by
          rw [ekey] at h2
          exact h2.inj ⟨.text y u, Nat.zero_le _⟩
        rw [h1, ky, ktext]
        constructor
        · intro z
          have : y = x := by simpa [Value.isStr] using z
          rw [this]
        · intro z
          injection z with z
          injection z with z
          simp [Value.isStr, z]
      | _ => rw [ekey] at hs; cases hs
    unfold foundByValue
    cases hf : es.findIdx? (fun e => e.key.isStr x) with
    | none =>
      refine wpAny_pure (hnone fun j hj => ?_)
      have hl : j < es.size := by
        rw [T.len]
        exact (List.getElem?_eq_some_iff.mp hj).1
      have z := Array.findIdx?_eq_none_iff.mp hf _ (Array.getElem_mem hl)
      rw [(strAt j hl).mpr hj] at z
      cases z
    | some i =>
      obtain ⟨hlt, hi, _⟩ := Array.findIdx?_eq_some_iff_getElem.mp hf
      have hki := (strAt i hlt).mp hi
      obtain ⟨k', h1, h2, _⟩ := T.at_ i hlt
      have hkk : k' = k := by
        rw [h1] at hki
        exact Option.some.inj hki
      simp only [Array.getElem?_eq_getElem hlt]
      refine wpAny_bind (wpAny_dictEpoch ho hd (wpAny_bind (KeyV.eqB hu h2 hkey (wpAny_bind (wpAny_dictEpoch ho hd ?_)))))
      show wpAny _ _ (if (ep != ep) = true then _ else _) _ E _
      rw [if_neg (by simp), decide_eq_true hkk]
      exact wpAny_bind (wpAny_rule (wpAny_pure (hsome i hki)))
  -- not all scalars: the walk in full, every stored key is asked
  have inv0 : (∀ j : Nat, j < 0 → ks[j]? ≠ some k) := fun _ h => absurd h (Nat.not_lt_zero _)
  unfold dictFind
  try with_reducible refine wpAny_holding ?_
  refine wpAny_bind (wpAny_dictEntries ho hd ?_)
  dsimp only
  by_cases hall : ((key :: (placesWithHash es.size (fun i => es[i]?.map (·.hash)) (k.hash w)).filterMap (fun i => es[i]?.map (·.key))).all carriedByValue) = true
  · rw [if_pos hall]
    split
    next x t =>
      split
      next hstrs => exact texts x t rfl hstrs
      next => exact plain
    next => exact plain
  · rw [if_neg hall, if_neg changed]
    have shape : key = .none ∨ (∃ b, key = .bool b) ∨ (∃ i t, key = .int i t) ∨ (∃ x t, key = .str x t) ∨ ∃ a, key = .ref a := by
      have z := hkey.1
      cases z <;> simp
    by_cases hone : (((placesWithHash es.size (fun i => es[i]?.map (·.hash)) (k.hash w)).filterMap (fun i => es[i]?.map (·.key))) == [key]) = true
    all_goals (first | rw [if_pos hone] | rw [if_neg hone])
    all_goals rcases shape with rfl | ⟨b, rfl⟩ | ⟨i, t, rfl⟩ | ⟨x, t, rfl⟩ | ⟨a, rfl⟩
    all_goals dsimp only
    all_goals by_cases hs : (es.all fun e => isExactStrKey e.key) = true
    all_goals (first | (rw [if_pos hs]; exact texts _ _ rfl hs) | rw [if_neg hs] | skip)
    all_goals (first | refine wpAny_bind (wpAny_pure ?_) | refine wpAny_bind (tells_not hkey storedKey ?_))
    all_goals rw [if_neg (by simp)]
    all_goals refine wpAny_bind ?_
    all_goals
      refine wpAny_forIn_list _
        (fun rest b s' => s' = s ∧ ∃ i hit, b = (none, hit) ∧ rest = (List.range' i (es.size - i)).filter (fun i => (es[i]?.map (·.hash)) == some (k.hash w)) ∧ i ≤ es.size ∧
          ((hit = none ∧ ∀ j : Nat, j < i → ks[j]? ≠ some k) ∨ ∃ j : Nat, hit = some j ∧ j < i ∧ ks[j]? = some k)) _ ?_ ?_ _ _
        ⟨rfl, 0, none, rfl, by rw [placesWithHash, List.range_eq_range', Nat.sub_zero], Nat.zero_le _, .inl ⟨rfl, inv0⟩⟩
    all_goals (first
      | (rintro x rest b s' ⟨rfl, i, hit, rfl, hr, hi, hH⟩
         obtain ⟨hix, hxn, hpx, hskip, hrest⟩ := filter_range'_cons _ _ _ _ _ hr.symm
         have hlt : x < es.size := by omega
         have hrest' : rest = (List.range' (x + 1) (es.size - (x + 1))).filter (fun i => (es[i]?.map (·.hash)) == some (k.hash w)) := by rw [hrest]; congr 2; omega
         obtain ⟨k', q1, q2, q3⟩ := T.at_ x hlt
         have hHx : (hit = none ∧ ∀ j : Nat, j < x → ks[j]? ≠ some k) ∨ ∃ j : Nat, hit = some j ∧ j < x ∧ ks[j]? = some k := by
           rcases hH with ⟨h0, hno⟩ | ⟨j, h1, hji, hj⟩
           · refine .inl ⟨h0, fun j hjx hj => ?_⟩
             rcases Nat.lt_or_ge j i with h | h
             · exact hno j h hj
             · have z := hskip j h hjx
               rw [hashOf j hj] at z
               cases z
           · exact .inr ⟨j, h1, by omega, hj⟩
         have hstay : ¬ k' = k → ((hit = none ∧ ∀ j : Nat, j < x + 1 → ks[j]? ≠ some k) ∨ ∃ j : Nat, hit = some j ∧ j < x + 1 ∧ ks[j]? = some k) := by
           intro hne
           rcases hHx with ⟨h0, hno⟩ | ⟨j, h1, hjx, hj⟩
           · refine .inl ⟨h0, fun j hjx hj => ?_⟩
             rcases Nat.lt_or_ge j x with h | h
             · exact hno j h hj
             · have e : j = x := by omega
               subst e
               rw [q1] at hj
               exact hne (Option.some.inj hj)
           · exact .inr ⟨j, h1, by omega, hj⟩
         rw [Array.getElem?_eq_getElem hlt]
         dsimp only
         by_cases hh : (es[x].hash == k.hash w) = true
         · rw [if_pos hh]
           refine wpAny_bind (wpAny_dictEpoch ho hd (wpAny_bind (KeyV.eqB hu q2 hkey (wpAny_bind (wpAny_dictEpoch ho hd ?_)))))
           show wpAny _ _ (if (ep != ep) = true then _ else _) _ E _
           rw [if_neg (by simp)]
           by_cases hkk : k' = k
           · rw [decide_eq_true hkk]
             subst hkk
             rcases hHx with ⟨rfl, _⟩ | ⟨j, _, hjx, hj⟩
             · first | rw [if_pos rfl] | skip
               simp only [Option.isSome_none, Bool.false_eq_true, if_false]
               first | refine wpAny_bind (wpAny_pure ?_) | skip
               refine wpAny_bind (wpAny_rule ?_)
               split
               · exact wpAny_pure (wpAny_pure (hsome x q1))
               · exact wpAny_pure ⟨rfl, x + 1, some x, rfl, hrest', hlt, .inr ⟨x, rfl, Nat.lt_succ_self x, q1⟩⟩
             · exact absurd (nodup_ix' T.nd hj q1) (by omega)
           · rw [decide_eq_false hkk]
             simp only [Bool.false_eq_true, if_false]
             refine wpAny_bind (wpAny_rule ?_)
             first | rw [if_neg (by simp)] | skip
             first
               | exact wpAny_pure ⟨rfl, x + 1, hit, rfl, hrest', hlt, hstay hkk⟩
               | exact wpAny_bind (wpAny_pure (wpAny_pure ⟨rfl, x + 1, hit, rfl, hrest', hlt, hstay hkk⟩))
         · rw [if_neg hh]
           refine wpAny_pure ⟨rfl, x + 1, hit, rfl, hrest', hlt, hstay ?_⟩
           intro hkk
           rw [q3, hkk] at hh
           simp at hh)
      | (rintro b s' ⟨rfl, i, hit, rfl, hr, hi, hH⟩
         rcases hH with ⟨rfl, hno⟩ | ⟨j, rfl, _, hj⟩
         · refine wpAny_pure (hnone fun j hj => ?_)
           rcases Nat.lt_or_ge j i with h | h
           · exact hno j h hj
           · have hjl : j < es.size := by
               rw [T.len]
               exact (List.getElem?_eq_some_iff.mp hj).1
             have z := List.filter_eq_nil_iff.mp hr.symm j (List.mem_range'_1.mpr ⟨h, by omega⟩)
             exact z (hashOf j hj)
         · exact wpAny_pure (hsome j hj)))
end
end Q

set_option Elab.async false
set_option maxRecDepth 100000
set_option linter.all false
set_option autoImplicit false
namespace Q
open PySem PySem.Spec PyProof.Rows L2 LamX

/-! ### lookups by data -/
def lookD (x : PyData) : List (PyData × W) → Option W
  | [] => none
  | (k, v) :: r => if keyD k = keyD x then some v else lookD x r
def putD (x : PyData) (v : W) : List (PyData × W) → List (PyData × W)
  | [] => [(x, v)]
  | (k, u) :: r => if keyD k = keyD x then (k, v) :: r else (k, u) :: putD x v r
def keyOk (x : PyData) : Prop := ∃ k, keyD x = some k ∧ k.depth ≤ 8
theorem putD_keys (x : PyData) (v : W) : ∀ kvs : List (PyData × W), (putD x v kvs).map (fun p => keyD p.1) = if keyD x ∈ kvs.map (fun p => keyD p.1) then kvs.map (fun p => keyD p.1) else kvs.map (fun p => keyD p.1) ++ [keyD x]
  | [] => by simp [putD]
  | (k, u) :: r => by
    have ih := putD_keys x v r
    unfold putD
    by_cases e : keyD k = keyD x
    · rw [if_pos e]
      simp [e]
    · rw [if_neg e]
      simp only [List.map_cons, ih, List.mem_cons]
      have e' : ¬ keyD x = keyD k := fun z => e z.symm
      by_cases h : keyD x ∈ r.map (fun p => keyD p.1)
      · rw [if_pos h, if_pos (.inr h)]
      · rw [if_neg h, if_neg (by simp [e', h])]
        rfl
theorem putD_nodup {x : PyData} {v : W} {kvs : List (PyData × W)} (n : (kvs.map fun p => keyD p.1).Nodup) : ((putD x v kvs).map fun p => keyD p.1).Nodup := by
  rw [putD_keys]
  split
  · exact n
  · rename_i h
    rw [List.nodup_append]
    refine ⟨n, by simp, fun a ha b hb => ?_⟩
    simp only [List.mem_singleton] at hb
    subst hb
    exact fun z => h (z ▸ ha)
theorem putD_length (x : PyData) (v : W) : ∀ kvs : List (PyData × W), (putD x v kvs).length ≤ kvs.length + 1
  | [] => Nat.le_refl _
  | (k, u) :: r => by
    unfold putD
    split
    · exact Nat.le_succ _
    · have := putD_length x v r
      simp only [List.length_cons]
      omega

section
variable {G : Gd} {X : Cx} {pins : List (Addr × Obj)} {σ : L2.St} {H : Hp} {s : Shared} {ι : Io}
mutual
theorem keyV_of (I : Inv X pins σ H s) (hK : X.K = G.K) : ∀ (d : PyData) (v : V) (u : Value) (k : NestedKey), RepD G.K H v d → RelV v u → keyD d = some k → NestedIs s.heap k u
  | .none, _, _, _, r, rv, e => by
    cases r
    cases e
    cases rv
    exact .none
  | .bool b, _, _, _, r, rv, e => by
    cases r
    cases e
    cases rv
    exact .bool rfl
  | .int i, _, _, _, r, rv, e => by
    cases r
    cases e
    obtain ⟨t, rfl⟩ := rv
    exact .int i t
  | .str x, _, _, _, r, rv, e => by
    cases r
    cases e
    obtain ⟨t, rfl⟩ := rv
    exact .text x t
  | .tuple ds, _, _, k, r, rv, e => by
    cases r with
    | @tup a xs _ h1 h2 =>
      cases rv
      obtain ⟨its, rs, ⟨o, e1, e2, n, e3⟩, _⟩ := I.tuple (by rw [hK]; exact h1)
      cases hk : keyDs ds with
      | none => simp [keyD, hk] at e
      | some ks =>
        simp [keyD, hk] at e
        subst e
        exact .tup e1 e2 e3 (by simpa using keyVs_of I hK ds xs its ks h2 rs hk)
  | .list _, _, _, _, _, _, e => by simp [keyD] at e
  | .dict _, _, _, _, _, _, e => by simp [keyD] at e
theorem keyVs_of (I : Inv X pins σ H s) (hK : X.K = G.K) : ∀ (ds : List PyData) (vs : List V) (us : List Value) (ks : List NestedKey), RepDs G.K H vs ds → Vals vs us → keyDs ds = some ks → NestedAll s.heap ks us
  | [], _, _, _, r, rv, e => by
    cases r
    cases rv
    cases e
    exact .nil
  | d :: ds, _, _, ks, r, rv, e => by
    cases r with
    | cons r1 r2 =>
      cases rv with
      | cons v1 v2 =>
        cases h1 : keyD d with
        | none => simp [keyDs, h1] at e
        | some k =>
          cases h2 : keyDs ds with
          | none => simp [keyDs, h1, h2] at e
          | some ks' =>
            simp [keyDs, h1, h2] at e
            subst e
            exact .cons (keyV_of I hK d _ _ k r1 v1 h1) (keyVs_of I hK ds _ _ ks' r2 v2 h2)
end
/-- the keys of the pairs -/
def keysOf (kvs : List (PyData × W)) : List NestedKey := kvs.filterMap fun p => keyD p.1
theorem keysOf_cons {p : PyData × W} {kvs : List (PyData × W)} {k : NestedKey} (h : keyD p.1 = some k) : keysOf (p :: kvs) = k :: keysOf kvs := by
  unfold keysOf
  rw [List.filterMap_cons, h]
theorem keysOf_map : ∀ {kvs : List (PyData × W)} {rs : List DictEntry}, Paired (RepKV G ι H) kvs rs → (kvs.map fun p => keyD p.1) = (keysOf kvs).map some
  | _, _, .nil => rfl
  | _, _, .cons r t => by
    obtain ⟨k, _, _, h, _⟩ := r
    rw [keysOf_cons h, List.map_cons, List.map_cons, h, keysOf_map t]
theorem nodup_of_map {α β : Type} (f : α → β) : ∀ {l : List α}, (l.map f).Nodup → l.Nodup
  | [], _ => List.nodup_nil
  | a :: l, h => by
    rw [List.map_cons, List.nodup_cons] at h
    exact List.nodup_cons.mpr ⟨fun z => h.1 (List.mem_map_of_mem z), nodup_of_map f h.2⟩
theorem ents_of (I : Inv X pins σ H s) (hK : X.K = G.K) (hw : X.w = G.w) {kvs : List (PyData × W)} {rs : List DictEntry} (p : Paired (RepKV G ι H) kvs rs) (n : (kvs.map fun p => keyD p.1).Nodup) : Ents X.w s.heap rs.toArray (keysOf kvs) := by
  have len : ∀ {kvs : List (PyData × W)} {rs : List DictEntry}, Paired (RepKV G ι H) kvs rs → rs.length = (keysOf kvs).length := by
    intro kvs rs p
    induction p with
    | nil => rfl
    | cons r _ ih =>
      obtain ⟨k, _, _, h, _⟩ := r
      rw [keysOf_cons h, List.length_cons, List.length_cons, ih]
  have get : ∀ {kvs : List (PyData × W)} {rs : List DictEntry}, Paired (RepKV G ι H) kvs rs → ∀ (j : Nat) (hj : j < rs.length), ∃ k, (keysOf kvs)[j]? = some k ∧ KeyV s.heap k rs[j].key ∧ rs[j].hash = k.hash X.w := by
    intro kvs rs p
    induction p with
    | nil => intro j hj; exact absurd hj (Nat.not_lt_zero _)
    | cons r _ ih =>
      obtain ⟨k, kv, vv, h1, h2, h3, h4, h5, _⟩ := r
      rw [keysOf_cons h1]
      intro j hj
      cases j with
      | zero => exact ⟨k, rfl, ⟨keyV_of I hK _ _ _ _ h4 h5 h1, h2⟩, by rw [hw]; exact h3⟩
      | succ j => exact ih j (by simpa using hj)
  refine ⟨by simpa using len p, fun j hj => by simpa using get p j (by simpa using hj), ?_⟩
  rw [keysOf_map p] at n
  exact nodup_of_map some n
theorem lookD_find {x : PyData} {k : NestedKey} (hx : keyD x = some k) : ∀ {kvs : List (PyData × W)} {rs : List DictEntry}, Paired (RepKV G ι H) kvs rs →
    ((∀ j : Nat, (keysOf kvs)[j]? ≠ some k) → lookD x kvs = none) ∧ ∀ j : Nat, (keysOf kvs)[j]? = some k → (keysOf kvs).Nodup → ∃ (v : W) (r : DictEntry) (vv : V), lookD x kvs = some v ∧ rs[j]? = some r ∧ RepW G.bare ι H v vv ∧ RelV vv r.val
  | _, _, .nil => ⟨fun _ => rfl, fun j h _ => by simp [keysOf] at h⟩
  | (q, v) :: kvs, r :: rs, .cons p t => by
    obtain ⟨k', kv, vv, h1, h2, h3, h4, h5, h6, h7⟩ := p
    dsimp only at h1 h4 h6
    obtain ⟨i1, i2⟩ := lookD_find hx t
    have ek : keysOf ((q, v) :: kvs) = k' :: keysOf kvs := keysOf_cons h1
    rw [ek]
    refine ⟨fun hno => ?_, fun j hj nd => ?_⟩
    · unfold lookD
      rw [h1, hx, if_neg (fun z => hno 0 (by rw [← Option.some.inj z]; rfl))]
      exact i1 fun j => hno (j + 1)
    · unfold lookD
      rw [h1, hx]
      cases j with
      | zero =>
        have e : k' = k := by simpa using hj
        rw [if_pos (by rw [e])]
        exact ⟨v, r, vv, rfl, rfl, h6, h7⟩
      | succ j =>
        have hj' : (keysOf kvs)[j]? = some k := by simpa using hj
        have ne : k' ≠ k := fun z => (List.nodup_cons.mp nd).1 (z ▸ List.mem_of_getElem? hj')
        rw [if_neg (fun z => ne (Option.some.inj z))]
        obtain ⟨v', r', vv', e1, e2, e3⟩ := i2 j hj' (List.nodup_cons.mp nd).2
        exact ⟨v', r', vv', e1, e2, e3⟩
/-- the object of a dict -/
theorem dx_obj (I : Inv X pins σ H s) {a : Addr} {rs : List DictEntry} (h : H a = some (DX a rs)) : ∃ o ep, s.heap.get? a = some o ∧ o.ExactDict ∧ o.data = .dict rs.toArray ep := by
  obtain ⟨p, _, _⟩ := I.hok a _ h
  exact p
variable {A : Around} {E : Value → Shared → Prop}
theorem dx_get {a : Addr} {kvs : List (PyData × W)} {x : PyData} {xv : V} {u : Value} {Q : Option Value → Shared → Prop} (I : Inv X pins σ H s) (hK : X.K = G.K) (hw : X.w = G.w) (hu : A.units + 8 < cLine) (ro : RepO G ι H a (.dct kvs)) (rx : RepD G.K H xv x) (ru : RelV xv u) (hx : keyOk x)
    (h0 : lookD x kvs = none → ∀ tk, Q none { s with toks := tk }) (h1 : ∀ v vv uv, lookD x kvs = some v → RepW G.bare ι H v vv → RelV vv uv → ∀ tk, Q (some uv) { s with toks := tk }) : wpAny (model X.prog X.w) A (dictGet a u) Q E s := by
  obtain ⟨k, hk, hd⟩ := hx
  obtain ⟨hs, hl, hn, rs, hH, p⟩ := ro
  obtain ⟨o, ep, ho, hc, hdat⟩ := dx_obj I hH
  have T := ents_of I hK hw p hn
  have key : KeyV s.heap k u := ⟨keyV_of I hK _ _ _ _ rx ru hk, hd⟩
  obtain ⟨f1, f2⟩ := lookD_find hk p
  unfold dictGet
  try with_reducible refine wpAny_holding ?_
  refine wpAny_bind (pyHash_key k u A s _ key.1 (by omega) ?_)
  refine wpAny_bind (find_mixed (s := { s with toks := s.toks + k.draws }) hu key ho hdat T (fun hno => ?_) fun j hj => ?_)
  · exact wpAny_pure (h0 (f1 hno) _)
  · obtain ⟨v, r, vv, e1, e2, e3, e4⟩ := f2 j hj T.nd
    refine wpAny_bind (wpAny_dictEntries (s := { s with toks := s.toks + k.draws }) ho hdat ?_)
    have e2' : rs.toArray[j]? = some r := by simpa using e2
    rw [e2']
    exact wpAny_pure (h1 v vv r.val e1 e3 e4 _)
theorem dx_typeIs (I : Inv X pins σ H s) {a : Addr} {rs : List DictEntry} (h : H a = some (DX a rs)) : s.TypeIs (.ref a) "dict" := by
  obtain ⟨o, ep, ho, hc, _⟩ := dx_obj I h
  exact ⟨o, ho, hc.1⟩
/-- k in d -/
theorem dx_in {a : Addr} {kvs : List (PyData × W)} {x : PyData} {xv : V} {u : Value} {Q : Value → Shared → Prop} (I : Inv X pins σ H s) (hK : X.K = G.K) (hw : X.w = G.w) (hu : A.units + 9 < cLine) (ro : RepO G ι H a (.dct kvs)) (rx : RepD G.K H xv x) (ru : RelV xv u) (hx : keyOk x)
    (h : ∀ tk, Q (.bool (lookD x kvs).isSome) { s with toks := tk }) : wpAny (model X.prog X.w) A (compareOp .In u (.ref a)) Q E s := by
  have hs := ro.1
  have hT : s.TypeIs (.ref a) "dict" := by
    obtain ⟨_, _, _, rs, hH, _⟩ := id ro
    exact dx_typeIs I hH
  show wpAny _ _ (do return .bool (← contains (.ref a) u)) Q E s
  refine wpAny_bind ?_
  unfold contains
  try with_reducible refine wpAny_holding ?_
  refine wpAny_bind (wpAny_specialOf hT slot_dict_contains.lookup ?_)
  show wpAny _ _ (if (some (Value.builtin "dict.__contains__") == some Value.none) = true then _ else _) _ E s
  rw [if_neg (by rw [beq_builtin_none]; exact Bool.false_ne_true)]
  refine wpAny_bind (wpAny_callSpecialUnlessNone?_slot (name := Str.ofString "__contains__") hT slot_dict_contains (wpAny_call_entry slot_dict_contains hT entry_dict_contains ?_ (args_dict_contains _ _)))
  show wpAny _ _ (dictGet a u >>= _) _ _ s
  refine wpAny_bind (dx_get I hK hw (show A.in1.units + 8 < cLine by rw [Around.in1_units]; omega) ro rx ru hx (fun e tk => ?_) fun v vv uv e _ _ tk => ?_)
  · rw [e] at h
    show wpAny _ _ (Builtin.Dict.pendingKey? a u >>= _) _ _ _
    exact wpAny_bind (wpAny_pendingKey_other hs (wpAny_pure ⟨_, rfl, wpAny_truthy_bool (wpAny_pure (h tk))⟩))
  · rw [e] at h
    show wpAny _ _ (ret (.bool true)) _ _ _
    exact wpAny_pure ⟨_, rfl, wpAny_truthy_bool (wpAny_pure (h tk))⟩
/-- d[k], there -/
theorem dx_item {a : Addr} {kvs : List (PyData × W)} {x : PyData} {xv : V} {u : Value} {v : W} {Q : Value → Shared → Prop} (I : Inv X pins σ H s) (hK : X.K = G.K) (hw : X.w = G.w) (hu : A.units + 9 < cLine) (ro : RepO G ι H a (.dct kvs)) (rx : RepD G.K H xv x) (ru : RelV xv u) (hx : keyOk x) (hv : lookD x kvs = some v)
    (h : ∀ vv uv, RepW G.bare ι H v vv → RelV vv uv → ∀ tk, Q uv { s with toks := tk }) : wpAny (model X.prog X.w) A (getItem (.ref a) u) Q E s := by
  have hT : s.TypeIs (.ref a) "dict" := by
    obtain ⟨_, _, _, rs, hH, _⟩ := id ro
    exact dx_typeIs I hH
  unfold getItem
  try with_reducible refine wpAny_holding ?_
  refine wpAny_bind (wpAny_sequenceKey hT (by decide) ?_)
  refine wpAny_bind (wpAny_callSpecial?_slot (name := Str.ofString "__getitem__") hT slot_dict_getitem (wpAny_call_entry slot_dict_getitem hT entry_dict_getitem ?_ (args_dict_getitem _ _)))
  show wpAny _ _ (dictGet a u >>= _) _ _ s
  refine wpAny_bind (dx_get I hK hw (show A.in1.units + 8 < cLine by rw [Around.in1_units]; omega) ro rx ru hx (fun e tk => ?_) fun v' vv uv e r1 r2 tk => ?_)
  · rw [hv] at e
    cases e
  · rw [hv] at e
    cases e
    exact wpAny_pure ⟨uv, rfl, wpAny_pure (h vv uv r1 r2 tk)⟩
theorem put_new {x : PyData} {k : NestedKey} {v : W} {e : DictEntry} (hx : keyD x = some k) (re : RepKV G ι H (x, v) e) : ∀ {kvs : List (PyData × W)} {rs : List DictEntry}, Paired (RepKV G ι H) kvs rs → (∀ j : Nat, (keysOf kvs)[j]? ≠ some k) → Paired (RepKV G ι H) (putD x v kvs) (rs ++ [e])
  | _, _, .nil, _ => .cons re .nil
  | (q, w0) :: kvs, r :: rs, .cons p t, hno => by
    obtain ⟨k', kv, vv, h1, h2⟩ := id p
    dsimp only at h1
    rw [keysOf_cons h1] at hno
    unfold putD
    rw [h1, hx, if_neg (fun z => hno 0 (by rw [← Option.some.inj z]; rfl))]
    exact .cons p (put_new hx re t fun j => hno (j + 1))
theorem put_old {x : PyData} {k : NestedKey} {v : W} {vv uv : Value} {vw : V} (hx : keyD x = some k) (rv : RepW G.bare ι H v vw) (ru : RelV vw uv) : ∀ {kvs : List (PyData × W)} {rs : List DictEntry}, Paired (RepKV G ι H) kvs rs → (keysOf kvs).Nodup → ∀ j : Nat, (keysOf kvs)[j]? = some k → Paired (RepKV G ι H) (putD x v kvs) (rs.modify j fun e => { e with val := uv })
  | _, _, .nil, _, j, h => by simp [keysOf] at h
  | (q, w0) :: kvs, r :: rs, .cons p t, nd, j, hj => by
    obtain ⟨k', kv, vv', h1, h2, h3, h4, h5, _⟩ := id p
    dsimp only at h1
    rw [keysOf_cons h1] at hj nd
    unfold putD
    rw [h1, hx]
    cases j with
    | zero =>
      have e : k' = k := by simpa using hj
      rw [if_pos (by rw [e])]
      rw [List.modify_zero_cons]
      exact .cons ⟨k', kv, vw, h1, h2, h3, h4, h5, rv, ru⟩ t
    | succ j =>
      have hj' : (keysOf kvs)[j]? = some k := by simpa using hj
      have ne : k' ≠ k := fun z => (List.nodup_cons.mp nd).1 (z ▸ List.mem_of_getElem? hj')
      rw [if_neg (fun z => ne (Option.some.inj z)), List.modify_succ_cons]
      exact .cons p (put_old (vv := vv) hx rv ru t (List.nodup_cons.mp nd).2 j hj')
/-- d[k] = v -/
theorem dx_set {a : Addr} {kvs : List (PyData × W)} {x : PyData} {v : W} {xv vw : V} {u uv : Value} {Q : Unit → Shared → Prop} (I : Inv X pins σ H s) (hK : X.K = G.K) (hw : X.w = G.w) (hu : A.units + 9 < cLine) (ro : RepO G ι H a (.dct kvs)) (hl : kvs.length < sizeLine) (rx : RepD G.K H xv x) (ru : RelV xv u) (hx : keyOk x)
    (rv : RepW G.bare ι H v vw) (rvu : RelV vw uv) (h : ∀ (rs' : List DictEntry) (s' : Shared), Inv X pins σ (upd H a (DX a rs')) s' → Paired (RepKV G ι H) (putD x v kvs) rs' → Q () s') : wpAny (model X.prog X.w) A (setItem (.ref a) u uv) Q E s := by
  obtain ⟨k, hk, hd⟩ := hx
  obtain ⟨hs, hz, hn, rs, hH, p⟩ := ro
  have hT := dx_typeIs I hH
  obtain ⟨o, ep, ho, hc, hdat⟩ := dx_obj I hH
  have T := ents_of I hK hw p hn
  have key : KeyV s.heap k u := ⟨keyV_of I hK _ _ _ _ rx ru hk, hd⟩
  have hu' : A.in1.units + 8 < cLine := by rw [Around.in1_units]; omega
  have hsz : rs.length = kvs.length := p.length.symm
  have fin : ∀ (h' : Heap) (tk : Nat) (rs' : List DictEntry), (∃ o ep, h'.get? a = some o ∧ o.ExactDict ∧ o.data = .dict rs'.toArray ep) → Heap.SameBut a s.heap h' → Inv X pins σ (upd H a (DX a rs')) { s with heap := h', toks := tk } := fun h' tk rs' hob hs => by
    obtain ⟨o', ep', e1, e2, e3⟩ := hob
    refine d_write I (by rw [hH]; exact True.intro) hs ⟨o', e1⟩ ⟨⟨o', ep', e1, e2, e3⟩, ⟨o', e1⟩, ?_⟩
    rintro h1 h2 ⟨o1, ep1, f1, f2, f3⟩ st
    exact ⟨o1, ep1, st _ f1, f2, f3⟩
  unfold setItem
  try with_reducible refine wpAny_holding ?_
  refine wpAny_bind (wpAny_sequenceKey hT (by decide) ?_)
  refine wpAny_bind (wpAny_callSpecial?_slot (name := Str.ofString "__setitem__") hT slot_dict_setitem (wpAny_call_entry slot_dict_setitem hT entry_dict_setitem ?_ (args_dict_setitem _ _ _)))
  show wpAny _ _ (Builtin.Dict.notOrdered "__setitem__" ⟨[.ref a, u, uv], []⟩ >>= _) _ _ s
  refine wpAny_bind (wpAny_notOrdered_dict hT ?_)
  show wpAny _ _ (dictSet a u uv >>= _) _ _ s
  refine wpAny_bind ?_
  unfold dictSet
  try with_reducible refine wpAny_holding ?_
  refine wpAny_bind (pyHash_key k u A.in1 s _ key.1 (by omega) ?_)
  unfold dictSetHashed
  try with_reducible refine wpAny_holding ?_
  refine wpAny_bind (find_mixed (s := { s with toks := s.toks + k.draws }) hu' key ho hdat T (fun hno => ?_) fun j hj => ?_)
  · refine wpAny_bind (wpAny_rule (wpAny_updateDictKeys (hz := by rw [List.size_toArray]; omega) (s := { s with toks := s.toks + k.draws }) ho hdat ?_))
    refine wpAny_pure ⟨.none, rfl, wpAny_pure (h (rs ++ [⟨k.hash X.w, u, uv⟩]) _ (fin _ _ _ ⟨_, ep + 1, Heap.get?_update_self _ ho (Obj.isFreed_of_dict (Obj.data_mapDictKeys hdat _)), hc.mapDictKeys _, ?_⟩ (Heap.SameBut.update ..)) (put_new hk ⟨k, xv, vw, hk, hd, by rw [hw], rx, ru, rv, rvu⟩ p hno))⟩
    rw [Obj.data_mapDictKeys hdat]
    simp
  · refine wpAny_bind (wpAny_rule (wpAny_bind (wpAny_updateDict (s := { s with toks := s.toks + k.draws }) ho hdat (wpAny_point ?_))))
    refine wpAny_pure ⟨.none, rfl, wpAny_pure (h (rs.modify j fun e => { e with val := uv }) _ (fin _ _ _ ⟨_, ep, Heap.get?_update_self _ ho (Obj.isFreed_of_dict (Obj.data_mapDict hdat _)), hc.mapDict _, ?_⟩ (Heap.SameBut.update ..)) (put_old (vv := uv) hk rv rvu p T.nd j hj))⟩
    rw [Obj.data_mapDict hdat]
    simp
end
end Q

set_option Elab.async false
set_option maxRecDepth 100000
set_option linter.all false
set_option autoImplicit false
/-! QM: operators by the values of the evaluator. -/
namespace Q
open PySem PySem.Spec PyProof.Rows L2 LamX

/-! ### a value as data: a list of the heap is read off -/
def toD (h : AH) : W → Option PyData
  | .d x => some x
  | .ref i => match h.f i with
    | some (.lst ws) => (allD ws).map .list
    | _ => none
  | _ => none
def okD (x : PyData) : Bool := x.plain && decide (x.depth ≤ 64)
def lenL (h : AH) : W → Option Nat
  | .d (.list ds) => some ds.length
  | .ref i => match h.f i with
    | some (.lst ws) => some ws.length
    | _ => none
  | .clos ks => some ks.length
  | _ => none
/-- a list that the abstract heap tells of, or one that is frozen -/
def Sq2 (H : Hp) (a : Addr) (xs : List V) : Prop := H a = some (.lst xs) ∨ ∃ o, H a = some (.frz o (.lst xs))
theorem Sq2.sq {K : PySem.W.Frag} {H : Hp} {a : Addr} {xs : List V} (h : Sq2 H a xs) : SqL K H a xs := .inl h
theorem depthAll_mem {x : PyData} {xs : List PyData} (h : x ∈ xs) : x.depth ≤ PyData.depthAll xs := by
  induction xs with
  | nil => cases h
  | cons y ys ih =>
    simp only [PyData.depthAll]
    rcases List.mem_cons.mp h with e | e
    · subst e
      omega
    · have := ih e
      omega
mutual
theorem RepD.dpP {K : PySem.W.Frag} {H : Hp} : ∀ (d : PyData) (v : V), RepD K H v d → d.plain = true → Dp K H v d
  | .none, _, r, _ => by cases r; exact .non
  | .bool b, _, r, _ => by cases r; exact .bl b
  | .int i, _, r, _ => by cases r; exact .int i
  | .str x, _, r, _ => by cases r; exact .str x
  | .list ds, _, r, c => by
    cases r with
    | lst h1 h2 => exact .lst (.inl (.inr ⟨_, h1⟩)) (RepDs.dpP ds _ h2 (by simpa only [PyData.plain] using c))
  | .tuple ds, _, r, c => by
    cases r with
    | tup h1 h2 => exact .tup h1 (RepDs.dpP ds _ h2 (by simpa only [PyData.plain] using c))
  | .dict kvs, _, r, c => by simp [PyData.plain] at c
theorem RepDs.dpP {K : PySem.W.Frag} {H : Hp} : ∀ (ds : List PyData) (vs : List V), RepDs K H vs ds → PyData.plainAll ds = true → DpAll K H vs ds
  | [], _, r, _ => by cases r; exact .nil
  | d :: ds, _, r, c => by
    cases r with
    | cons h1 h2 =>
      simp only [PyData.plainAll, Bool.and_eq_true] at c
      exact .cons (RepD.dpP d _ h1 c.1) (RepDs.dpP ds _ h2 c.2)
end
section
variable {G : Gd} {X : Cx} {ι : Io} {h : AH} {H : Hp} {x y : W} {v u : V} {pins : List (Addr × Obj)} {σ : L2.St} {s : Shared}
theorem toD_list {ds : List PyData} (r : RlH G ι h H) (rv : RepW G ι H x v) (e : toD h x = some (.list ds)) : ∃ a vs, v = .ref a ∧ Sq2 H a vs ∧ RepDs G.K H vs ds := by
  cases x with
  | d z =>
    cases (Option.some.inj e)
    cases rv with
    | lst h1 h2 => exact ⟨_, _, rfl, .inr ⟨_, h1⟩, h2⟩
  | ref i =>
    simp only [toD] at e
    split at e
    · rename_i ws hi
      obtain ⟨a, e2, ev⟩ := rv
      obtain ⟨b, e3, vs, e4, rw4⟩ := r.ob i _ hi
      rw [e2] at e3
      cases e3
      cases hd : allD ws with
      | none => rw [hd] at e; cases e
      | some ds' =>
        rw [hd] at e
        cases e
        exact ⟨a, vs, ev, .inl e4, allD_rep hd rw4.up⟩
    · cases e
  | exc _ _ => cases e
  | clo _ => cases e
  | clos _ => cases e
theorem toD_data {d : PyData} (rv : RepW G ι H x v) (e : toD h x = some d) (n : ∀ ds, d ≠ .list ds) : RepD G.K H v d := by
  cases x with
  | d z =>
    cases (Option.some.inj e)
    exact rv
  | ref i =>
    simp only [toD] at e
    split at e
    · rename_i ws hi
      cases hd : allD ws with
      | none => rw [hd] at e; cases e
      | some ds' =>
        rw [hd] at e
        exact absurd (Option.some.inj e).symm (n ds')
    · cases e
  | exc _ _ => cases e
  | clo _ => cases e
  | clos _ => cases e
theorem toD_dp {d : PyData} (r : RlH G ι h H) (rv : RepW G ι H x v) (e : toD h x = some d) (p : d.plain = true) : Dp G.K H v d := by
  cases d with
  | list ds =>
    obtain ⟨a, vs, rfl, h1, h2⟩ := toD_list r rv e
    exact .lst h1.sq (RepDs.dpP ds vs h2 (by simpa only [PyData.plain] using p))
  | _ => exact RepD.dpP _ _ (toD_data rv e fun ds z => by cases z) p
theorem lenL_of {n : Nat} (r : RlH G ι h H) (rv : RepW G ι H x v) (e : lenL h x = some n) : ∃ a vs, v = .ref a ∧ Sq2 H a vs ∧ vs.length = n := by
  cases x with
  | d z =>
    cases z with
    | list ds =>
      cases (Option.some.inj e)
      cases rv with
      | lst h1 h2 => exact ⟨_, _, rfl, .inr ⟨_, h1⟩, h2.length⟩
    | _ => cases e
  | ref i =>
    simp only [lenL] at e
    split at e
    · rename_i ws hi
      cases (Option.some.inj e)
      obtain ⟨a, e2, ev⟩ := rv
      obtain ⟨b, e3, vs, e4, rw4⟩ := r.ob i _ hi
      rw [e2] at e3
      cases e3
      exact ⟨a, vs, ev, .inl e4, rw4.length.symm⟩
    · cases e
  | clos ks =>
    cases (Option.some.inj e)
    obtain ⟨a, o, vs, e1, e2, e3⟩ := rv
    exact ⟨a, vs, e1, .inr ⟨o, e2⟩, e3.length.symm⟩
  | exc _ _ => cases e
  | clo _ => cases e
theorem okD_iff {d : PyData} (h : okD d = true) : d.plain = true ∧ d.depth ≤ 64 := by
  unfold okD at h
  simpa using h
theorem Sq2.obj {a : Addr} {xs : List V} (I : Inv X pins σ H s) (q : Sq2 H a xs) : xs.length ≤ sizeLine ∧ ∃ (its : List Value) (n : Nat), Vals xs its ∧ s.heap.get? a = some { cls := .type "list", data := .seq its.toArray n } := by
  rcases q with q | ⟨o, q⟩
  · exact I.hok a _ q
  · exact (I.hok a _ q).2
end

/-! ### == and != -/
def eqLen (x y : W) (h : AH) : Option Bool := match lenL h x, lenL h y with
  | some n, some m => if n = m then none else some false
  | _, _ => none
def eqB (x y : W) (h : AH) : Option Bool := match toD h x, toD h y with
  | some a, some b => if okD a && okD b then some (a.eqv b) else eqLen x y h
  | _, _ => eqLen x y h
def bO (b : Bool) : W := .d (.bool b)
def eqO : Op2 := fun x y h => (eqB x y h).map bO
def neO : Op2 := fun x y h => (eqB x y h).map fun b => bO (!b)
/-- two values that can be told apart or not -/
def EqA (K : PySem.W.Frag) (x y : V) (H : Hp) (b : Bool) : Prop :=
  (∃ d e, Dp K H x d ∧ Dp K H y e ∧ okD d = true ∧ okD e = true ∧ b = PyData.eqv d e) ∨ ∃ a c xs ys, x = .ref a ∧ y = .ref c ∧ SqL K H a xs ∧ SqL K H c ys ∧ xs.length ≠ ys.length ∧ b = false
def rEqA (K : PySem.W.Frag) (f : Bool → Bool) : R2 := fun x y H Q => ∃ b, EqA K x y H b ∧ Q (.bl (f b)) H
section
variable {G : Gd} {X : Cx}
theorem op_eqA (hu : X.A.units + 64 < cLine) : OpR X (compareOp .Eq) (rEqA X.K id) := by
  intro pins s σ H x y v u Q I rx ry h
  obtain ⟨b, ⟨d, e, hd, he, sd, se, rfl⟩ | ⟨a, c, xs, ys, rfl, rfl, ha, hc, hn, rfl⟩, q⟩ := h
  · obtain ⟨as, r1⟩ := Dp.reads I d x v hd rx
    obtain ⟨bs, r2⟩ := Dp.reads I e y u he ry
    exact SeqAt.eq_plain r1 r2 (okD_iff sd).1 (okD_iff se).1 (by have := (okD_iff sd).2; omega) ⟨.bl _, H, I, rfl, q⟩
  · cases rx
    cases ry
    obtain ⟨us, r1, p1, _⟩ := I.list ha
    obtain ⟨ws, r2, p2, _⟩ := I.list hc
    exact SeqAt.RcAt.lists_lengths p1.isList p2.isList (by rw [List.size_toArray, List.size_toArray, ← r1.length, ← r2.length]; simpa using hn) (by omega) X.prog X.w _ _ ⟨.bl _, H, I, rfl, q⟩
theorem op_neA (hu : X.A.units + 64 < cLine) : OpR X (compareOp .NotEq) (rEqA X.K not) := by
  intro pins s σ H x y v u Q I rx ry h
  obtain ⟨b, ⟨d, e, hd, he, sd, se, rfl⟩ | ⟨a, c, xs, ys, rfl, rfl, ha, hc, hn, rfl⟩, q⟩ := h
  · obtain ⟨as, r1⟩ := Dp.reads I d x v hd rx
    obtain ⟨bs, r2⟩ := Dp.reads I e y u he ry
    exact SeqAt.ne_plain r1 r2 (okD_iff sd).1 (okD_iff se).1 (by have := (okD_iff sd).2; omega) ⟨.bl _, H, I, rfl, q⟩
  · cases rx
    cases ry
    obtain ⟨us, r1, p1, _⟩ := I.list ha
    obtain ⟨ws, r2, p2, _⟩ := I.list hc
    exact SeqAt.RcNeAt.lists_lengths p1.isList p2.isList (by rw [List.size_toArray, List.size_toArray, ← r1.length, ← r2.length]; simpa using hn) (by omega) X.prog X.w _ _ ⟨.bl _, H, I, rfl, q⟩
theorem eqB_rel {ι : Io} {h : AH} {H : Hp} {x y : W} {v u : V} {b : Bool} (r : RlH G ι h H) (rx : RepW G ι H x v) (ry : RepW G ι H y u) (e : eqB x y h = some b) : EqA G.K v u H b := by
  have len : eqLen x y h = some b → EqA G.K v u H b := fun e => by
    unfold eqLen at e
    split at e
    · rename_i n m hn hm
      split at e
      · cases e
      · rename_i ne
        cases e
        obtain ⟨a, xs, rfl, q1, l1⟩ := lenL_of r rx hn
        obtain ⟨c, ys, rfl, q2, l2⟩ := lenL_of r ry hm
        exact .inr ⟨a, c, xs, ys, rfl, rfl, q1.sq, q2.sq, by rw [l1, l2]; exact ne, rfl⟩
    · cases e
  unfold eqB at e
  split at e
  · rename_i a b' ha hb
    split at e
    · rename_i ok
      cases e
      rw [Bool.and_eq_true] at ok
      exact .inl ⟨a, b', toD_dp r rx ha (okD_iff ok.1).1, toD_dp r ry hb (okD_iff ok.2).1, ok.1, ok.2, rfl⟩
    · exact len e
  · exact len e
theorem os_eq (hK : X.K = G.K) (hu : X.A.units + 64 < cLine) : OpS G X (compareOp .Eq) eqO := ⟨_, op_eqA hu, fun ι h H x y z u v Q r rx ry e k => by
  unfold eqO at e
  cases eb : eqB x y h with
  | none => rw [eb] at e; cases e
  | some b =>
    rw [eb] at e
    cases e
    exact ⟨b, by rw [hK]; exact eqB_rel r rx ry eb, okP.here k r (.bl b)⟩⟩
theorem os_ne (hK : X.K = G.K) (hu : X.A.units + 64 < cLine) : OpS G X (compareOp .NotEq) neO := ⟨_, op_neA hu, fun ι h H x y z u v Q r rx ry e k => by
  unfold neO at e
  cases eb : eqB x y h with
  | none => rw [eb] at e; cases e
  | some b =>
    rw [eb] at e
    cases e
    exact ⟨b, by rw [hK]; exact eqB_rel r rx ry eb, okP.here k r (.bl _)⟩⟩
/-! ### is -/
def isN (x : W) : Bool := match x with
  | .d .none => true
  | _ => false
def isO : Op2 := fun x y _ => match y with
  | .d .none => some (bO (isN x))
  | .d (.bool b) => match x with
    | .d (.bool a) => some (bO (decide (a = b)))
    | _ => none
  | _ => none
def isNotO : Op2 := fun x y _ => match y with
  | .d .none => some (bO (!isN x))
  | .d (.bool b) => match x with
    | .d (.bool a) => some (bO (!decide (a = b)))
    | _ => none
  | _ => none
theorem isN_rel {ι : Io} {H : Hp} {x : W} {v : V} (rx : RepW G ι H x v) : decide (v = .non) = isN x := by
  cases x with
  | d z =>
    cases z <;> cases rx <;> simp [isN]
  | ref i => obtain ⟨a, _, rfl⟩ := rx; simp [isN]
  | exc c fs => obtain ⟨a, C, o, vs, rfl, _⟩ := rx; simp [isN]
  | clo k => simp [isN, G.cl.non k ι H v rx]
  | clos ks => obtain ⟨a, o, vs, rfl, _⟩ := rx; simp [isN]
theorem os_is : OpS G X (compareOp .Is) isO := ⟨_, OpR.or op_isN op_is_bl, fun ι h H x y z u v Q r rx ry e k => by
  unfold isO at e
  split at e
  · cases e
    cases ry
    exact .inl ⟨rfl, by rw [isN_rel rx]; exact okP.here k r (.bl _)⟩
  · cases ry
    split at e
    · cases e
      cases rx
      exact .inr ⟨_, _, rfl, rfl, okP.here k r (.bl _)⟩
    · cases e
  · cases e⟩
theorem os_isNot : OpS G X (compareOp .IsNot) isNotO := ⟨_, OpR.or op_notN op_isnot_bl, fun ι h H x y z u v Q r rx ry e k => by
  unfold isNotO at e
  split at e
  · cases e
    cases ry
    exact .inl ⟨rfl, by rw [isN_rel rx]; exact okP.here k r (.bl _)⟩
  · cases ry
    split at e
    · cases e
      cases rx
      exact .inr ⟨_, _, rfl, rfl, okP.here k r (.bl _)⟩
    · cases e
  · cases e⟩
/-! ### ints -/
def cmpI (g : Int → Int → Bool) : Op2 := fun x y _ => match x, y with
  | .d (.int i), .d (.int j) => some (bO (g i j))
  | _, _ => none
theorem os_cmpI {f : Value → Value → Sem Value} {g : Int → Int → Bool} (ho : OpR X f (rI0 fun i j => .bl (g i j))) : OpS G X f (cmpI g) := ⟨_, ho, fun ι h H x y z u v Q r rx ry e k => by
  unfold cmpI at e
  split at e
  · cases e
    cases rx
    cases ry
    exact ⟨_, _, rfl, rfl, okP.here k r (.bl _)⟩
  · cases e⟩
def ltO : Op2 := cmpI fun i j => decide (i < j)
def leO : Op2 := cmpI fun i j => decide (i ≤ j)
def gtO : Op2 := cmpI fun i j => decide (j < i)
def geO : Op2 := cmpI fun i j => decide (j ≤ i)
theorem os_lt : OpS G X (compareOp .Lt) ltO := os_cmpI op_lt
theorem os_le : OpS G X (compareOp .LtE) leO := os_cmpI op_le
theorem os_gt : OpS G X (compareOp .Gt) gtO := os_cmpI op_gt
theorem os_ge : OpS G X (compareOp .GtE) geO := os_cmpI op_ge
def binI (c : Int → Int → Bool) (g : Int → Int → Int) : Op2 := fun x y _ => match x, y with
  | .d (.int i), .d (.int j) => if c i j = true then some (.d (.int (g i j))) else none
  | _, _ => none
theorem os_binI {f : Value → Value → Sem Value} {C : Int → Int → Prop} {c : Int → Int → Bool} {g : Int → Int → Int} (ho : OpR X f (rI C fun i j => .int (g i j))) (hc : ∀ i j, c i j = true → C i j) : OpS G X f (binI c g) := ⟨_, ho, fun ι h H x y z u v Q r rx ry e k => by
  unfold binI at e
  split at e
  · split at e
    · rename_i q
      cases e
      cases rx
      cases ry
      exact ⟨_, _, rfl, rfl, hc _ _ q, okP.here k r (.int _)⟩
    · cases e
  · cases e⟩
def subO : Op2 := binI (fun _ _ => true) fun i j => i - j
def mulO : Op2 := binI (fun i j => decide (i.natAbs.log2 + j.natAbs.log2 < 1000000)) fun i j => i * j
def fdivO : Op2 := binI (fun _ j => decide (0 < j ∧ j.natAbs.log2 < 9000)) fun i j => i / j
def modO : Op2 := binI (fun _ j => decide (0 < j)) fun i j => i % j
def powO : Op2 := binI (fun i j => decide (0 ≤ j ∧ j ≤ 1000000 ∧ i.natAbs < 2 ^ 64)) fun i j => i ^ j.toNat
theorem os_sub : OpS G X (binaryOp .Sub) subO := os_binI (C := fun _ _ => True) (fun pins s σ H x y v u Q I rx ry h => by
  obtain ⟨i, j, rfl, rfl, _, q⟩ := h
  exact op_sub pins s σ H _ _ v u Q I rx ry ⟨i, j, rfl, rfl, q⟩) fun _ _ _ => trivial
theorem os_mul : OpS G X (binaryOp .Mult) mulO := os_binI op_mulW fun i j h => (of_decide_eq_true h : i.natAbs.log2 + j.natAbs.log2 < 1000000)
theorem os_fdiv : OpS G X (binaryOp .FloorDiv) fdivO := os_binI op_fdivW fun i j h => (of_decide_eq_true h : 0 < j ∧ j.natAbs.log2 < 9000)
theorem os_mod : OpS G X (binaryOp .Mod) modO := os_binI op_mod fun i j h => by simpa using h
theorem os_pow : OpS G X (binaryOp .Pow) powO := os_binI op_pow fun i j h => (of_decide_eq_true h : 0 ≤ j ∧ j ≤ 1000000 ∧ i.natAbs < 2 ^ 64)
def negO : Op1 := fun x _ => match x with
  | .d (.int i) => some (.d (.int (-i)))
  | _ => none
theorem us_neg : UnS G X (unaryOp .USub) negO := ⟨_, un_neg, fun ι h H x z u Q r rx e k => by
  unfold negO at e
  split at e
  · cases e
    cases rx
    exact ⟨_, rfl, okP.here k r (.int _)⟩
  · cases e⟩
/-! ### + -/
/-- what came may be frozen -/
def rFrz2 (r : R2) : R2 := fun x y H Q => r x y H fun v H' => ∃ a xs, v = .ref a ∧ H' a = some (.lst xs) ∧ ∀ o, Q v (upd H' a (frzO xs o))
theorem op_frz {f : Value → Value → Sem Value} {r : R2} (ho : OpR X f r) : OpR X f (rFrz2 r) := by
  intro pins s σ H x y v u Q I rx ry h
  refine thn (ho pins s σ H x y v u _ I rx ry h) fun w s1 hv => ?_
  obtain ⟨z, H1, I1, r1, a, xs, e1, h1, q⟩ := hv
  obtain ⟨o, J⟩ := I1.frz h1
  exact ⟨z, _, J, r1, q o⟩
def rCat2 : R2 := fun x y H Q => ∃ l b xs zs, x = .ref l ∧ y = .ref b ∧ Sq2 H l xs ∧ Sq2 H b zs ∧ xs.length + zs.length ≤ sizeLine ∧ ∀ p, H p = none → Q (.ref p) (upd H p (.lst (xs ++ zs)))
theorem op_cat2 : OpR X (binaryOp .Add) rCat2 := by
  intro pins s σ H x y v u Q I rx ry h
  obtain ⟨l, b, xs, zs, rfl, rfl, hH, hB, hz, q⟩ := h
  cases rx
  cases ry
  obtain ⟨z, its, n, r, e⟩ := hH.obj I
  obtain ⟨z2, its2, n2, r2, e2⟩ := hB.obj I
  have h1 := r.length
  have h2 := r2.length
  refine PySem.P.add_list e e2 ?_ (by rw [List.size_toArray, List.size_toArray]; omega)
  rw [show its.toArray ++ its2.toArray = (its ++ its2).toArray by simp]
  exact ⟨.ref _, _, I.lnew (t' := s.toks) (r.append r2) (by rw [List.length_append]; omega), rfl, q _ I.fresh⟩
def addO : Op2 := fun x y h => match toD h x, toD h y with
  | some (.int i), some (.int j) => some (.d (.int (i + j)))
  | some (.str a), some (.str b) => if a.length + b.length ≤ 1000000 then some (.d (.str (a ++ b))) else none
  | some (.tuple a), some (.tuple b) => if a.length + b.length ≤ 1000000 then some (.d (.tuple (a ++ b))) else none
  | some (.list a), some (.list b) => if a.length + b.length ≤ 1000000 then some (.d (.list (a ++ b))) else none
  | _, _ => none
theorem million {n : Nat} (h : n ≤ 1000000) : n ≤ sizeLine := by rw [sizeLine_eq]; omega
theorem os_add (hK : X.K = G.K) : OpS G X (binaryOp .Add) addO := ⟨_, OpR.or op_add (OpR.or op_add_str (OpR.or op_catA (op_frz op_cat2))), fun ι h H x y z u v Q r rx ry e k => by
  have nl : ∀ {d : PyData}, (match d with | .list _ => False | _ => True) → ∀ ds, d ≠ .list ds := fun h ds z => by subst z; exact h
  unfold addO at e
  split at e
  · rename_i i j h1 h2
    cases e
    have q1 := toD_data rx h1 (nl trivial)
    have q2 := toD_data ry h2 (nl trivial)
    cases q1
    cases q2
    exact .inl ⟨_, _, rfl, rfl, okP.here k r (.int _)⟩
  · rename_i i j h1 h2
    split at e
    · rename_i hl
      cases e
      have q1 := toD_data rx h1 (nl trivial)
      have q2 := toD_data ry h2 (nl trivial)
      cases q1
      cases q2
      exact .inr (.inl ⟨_, _, rfl, rfl, million hl, okP.here k r (.str _)⟩)
    · cases e
  · rename_i a b h1 h2
    split at e
    · rename_i hl
      cases e
      have q1 := toD_data rx h1 (nl trivial)
      have q2 := toD_data ry h2 (nl trivial)
      cases q1 with
      | @tup p xs _ t1 t2 =>
        cases q2 with
        | @tup q ys _ t3 t4 =>
          refine .inr (.inr (.inl ⟨p, q, xs, ys, rfl, rfl, by rw [hK]; exact t1, by rw [hK]; exact t3, million (by rw [t2.length, t4.length]; exact hl), fun e => ?_, fun _ e => ?_, fun _ _ l nl => ?_⟩))
          · subst e
            cases t2
            exact okP.here k r (.tup t3 t4)
          · subst e
            cases t4
            rw [List.append_nil] at k
            exact okP.here k r (.tup t1 t2)
          · exact k ι _ _ (.fresh nl) (r.fresh nl) (.tup (.inl (.inl upd_same)) (RepDs.mono (Stb.fresh nl) _ _ (t2.append t4)))
    · cases e
  · rename_i a b h1 h2
    split at e
    · rename_i hl
      cases e
      obtain ⟨p, xs, rfl, t1, t2⟩ := toD_list r rx h1
      obtain ⟨q, ys, rfl, t3, t4⟩ := toD_list r ry h2
      refine .inr (.inr (.inr ⟨p, q, xs, ys, rfl, rfl, t1, t3, million (by rw [t2.length, t4.length]; exact hl), fun l nl => ⟨l, _, rfl, upd_same, fun o => ?_⟩⟩))
      rw [upd2]
      exact k ι _ _ (.fresh nl) (r.fresh nl) (.lst upd_same (RepDs.mono (Stb.fresh nl) _ _ (t2.append t4)))
    · cases e
  · cases e⟩
end
end Q

set_option Elab.async false
set_option maxRecDepth 100000
set_option linter.all false
set_option autoImplicit false
/-! QN: chains, membership, subscripts, dicts. -/
namespace Q
open PySem PySem.Spec PyProof.Rows L2 LamX

instance (x : PyData) : Decidable (keyOk x) := match h : keyD x with
  | none => .isFalse fun ⟨k, e, _⟩ => by rw [h] at e; cases e
  | some k => if d : k.depth ≤ 8 then .isTrue ⟨k, h, d⟩ else .isFalse fun ⟨k', e, d'⟩ => by rw [h] at e; cases e; exact d d'

section
variable {G : Gd} {X : Cx} {pos : Pos} {a b c : Expr} {ma mb mc : SemE}
/-! ### a op b op' c -/
def eChain (o o' : Op2) (ma mb mc : SemE) : SemE := fun ρ h => (ma ρ h).bind fun x h1 => (mb ρ h1).bind fun y h2 => match o x y h2 with
  | some (.d (.bool true)) => (mc ρ h2).bind fun z h3 => .ofOpt (o' y z h3) h3
  | some (.d (.bool false)) => .ok (.d (.bool false)) h2
  | _ => .bad
theorem chain_red {U : WX} {o o' : Op2} {r r' : R2} {σ : L2.St} {H : Hp} {Q : VK} (hr : ∀ (ι : Io) (h : AH) (H : Hp) (x y z : W) (u v : V) (Q : VK), RlH G ι h H → RepW G ι H x u → RepW G ι H y v → o x y h = some z → okP G ι H Q z h → r u v H Q)
    (hr' : ∀ (ι : Io) (h : AH) (H : Hp) (x y z : W) (u v : V) (Q : VK), RlH G ι h H → RepW G ι H x u → RepW G ι H y v → o' x y h = some z → okP G ι H Q z h → r' u v H Q)
    (h : rdE G U (eChain o o' ma mb mc) σ H Q) : tChain r r' (rdE G U ma) (rdE G U mb) (rdE G U mc) σ H Q := by
  refine rd_bind (k := fun x ρ h1 => (mb ρ h1).bind fun y h2 => match o x y h2 with
    | some (.d (.bool true)) => (mc ρ h2).bind fun z h3 => .ofOpt (o' y z h3) h3
    | some (.d (.bool false)) => .ok (.d (.bool false)) h2
    | _ => .bad) h fun ι ι1 ρ x h1 v H1 e1 r1 re1 v1 m1 => ?_
  rw [to_bind] at m1
  refine ⟨ι1, ρ, h1, r1, re1, Out.to_mono m1 (fun y h2 z ι2 u H2 e2 r2 u2 => ?_) fun _ _ _ z => z⟩
  have z := toUpP e2 z
  split at z
  · rename_i eo
    refine hr ι2 h2 H2 x y _ v u _ r2 (v1.mono e2) u2 eo fun ι3 w H3 e3 r3 v3 => ?_
    cases v3
    have z := toUpP e3 z
    refine ⟨true, rfl, ?_⟩
    rw [if_pos rfl]
    rw [to_bind] at z
    refine ⟨ι3, ρ, h2, r3, (re1.mono e2).mono e3, Out.to_mono z (fun q h4 k ι4 t H4 e4 r4 t4 => ?_) fun _ _ _ z => z⟩
    obtain ⟨p, ep, k⟩ := to_ofOpt k
    exact hr' ι4 h4 H4 y q p u t Q r4 ((u2.mono e3).mono e4) t4 ep (k.up e4)
  · rename_i eo
    refine hr ι2 h2 H2 x y _ v u _ r2 (v1.mono e2) u2 eo fun ι3 w H3 e3 r3 v3 => ?_
    cases v3
    refine ⟨false, rfl, ?_⟩
    rw [if_neg Bool.false_ne_true]
    exact okP.here (okP.up e3 z) r3 (.bl false)
  · exact z.elim
theorem je_chain {op op' : CmpOp} {o o' : Op2} (ho : OpS G X (compareOp op) o) (ho' : OpS G X (compareOp op') o') (ha : JE G X ma a) (hb : JE G X mb b) (hc : JE G X mc c) (hm : lastMarks [op, op'] [b, c] = false := by with_unfolding_all rfl) : JE G X (eChain o o' ma mb mc) (.Compare a [op, op'] [b, c] pos) := fun U t => by
  obtain ⟨r, h1, h2⟩ := ho
  obtain ⟨r', h3, h4⟩ := ho'
  exact (pe_chain h1 h3 (ha U t) (hb U t) (hc U t) hm).imp fun σ H Q h => chain_red h2 h4 h
theorem jt_chain {op op' : CmpOp} {o o' : Op2} (ho : OpS G X (compareOp op) o) (ho' : OpS G X (compareOp op') o') (ha : JE G X ma a) (hb : JE G X mb b) (hc : JE G X mc c) (hm : lastMarks [op, op'] [b, c] = false := by with_unfolding_all rfl) : JT G X (tOf (eChain o o' ma mb mc)) (.Compare a [op, op'] [b, c] pos) := fun U t => by
  obtain ⟨r, h1, h2⟩ := ho
  obtain ⟨r', h3, h4⟩ := ho'
  exact (pt_chain h1 h3 (ha U t) (hb U t) (hc U t) hm).imp fun σ H Q h => chain_red h2 h4 (tOf_red h)
/-! ### x in c, x not in c -/
def inB (x y : W) (h : AH) : Option Bool := match toD h y with
  | some (.list ds) => match toD h x with
    | some d => if d.plain && PyData.plainAll ds && decide (d.depth ≤ 64) then some (ds.any fun z => z.eqv d) else none
    | none => none
  | some (.tuple ds) => match toD h x with
    | some d => if d.plain && PyData.plainAll ds && decide (d.depth ≤ 64) then some (ds.any fun z => z.eqv d) else none
    | none => none
  | _ => match y, x with
    | .ref i, .d k => match h.f i with
      | some (.dct kvs) => if keyOk k then some (lookD k kvs).isSome else none
      | _ => none
    | _, _ => none
def inO : Op2 := fun x y h => (inB x y h).map bO
def notInO : Op2 := fun x y h => (inB x y h).map fun b => bO (!b)
def rInA (f : Value → Value → Sem Value) (X : Cx) (g : Bool → Bool) : R2 := fun x y H Q => ∃ b, Q (.bl (g b)) H ∧ ∀ (pins : List (Addr × Obj)) (s : Shared) (σ : L2.St) (v u : Value) (R : Value → Shared → Prop), Inv X pins σ H s → RelV x v → RelV y u → (∀ tk, R (.bool (g b)) { s with toks := tk }) → wpAny (model X.prog X.w) X.A (f v u) R X.xe s
theorem op_rInA {f : Value → Value → Sem Value} {g : Bool → Bool} : OpR X f (rInA f X g) := by
  intro pins s σ H x y v u Q I rx ry h
  obtain ⟨b, q, k⟩ := h
  exact k pins s σ v u _ I rx ry fun tk => ⟨.bl _, H, I.tok tk, rfl, q⟩
theorem dx_notIn {pins : List (Addr × Obj)} {σ : L2.St} {H : Hp} {s : Shared} {ι : Io} {A : Around} {E : Value → Shared → Prop} {a : Addr} {kvs : List (PyData × W)} {x : PyData} {xv : V} {u : Value} {Q : Value → Shared → Prop} (I : Inv X pins σ H s) (hK : X.K = G.K) (hw : X.w = G.w) (hu : A.units + 9 < cLine) (ro : RepO G ι H a (.dct kvs)) (rx : RepD G.K H xv x) (ru : RelV xv u) (hx : keyOk x)
    (h : ∀ tk, Q (.bool (!(lookD x kvs).isSome)) { s with toks := tk }) : wpAny (model X.prog X.w) A (compareOp .NotIn u (.ref a)) Q E s := by
  have hs := ro.1
  have hT : s.TypeIs (.ref a) "dict" := by
    obtain ⟨_, _, _, rs, hH, _⟩ := id ro
    exact dx_typeIs I hH
  show wpAny _ _ (do return .bool (!(← contains (.ref a) u))) Q E s
  refine wpAny_bind ?_
  unfold contains
  try with_reducible refine wpAny_holding ?_
  refine wpAny_bind (wpAny_specialOf hT slot_dict_contains.lookup ?_)
  show wpAny _ _ (if (some (Value.builtin "dict.__contains__") == some Value.none) = true then _ else _) _ E s
  rw [if_neg (by rw [beq_builtin_none]; exact Bool.false_ne_true)]
  refine wpAny_bind (wpAny_callSpecialUnlessNone?_slot (name := Str.ofString "__contains__") hT slot_dict_contains (wpAny_call_entry slot_dict_contains hT entry_dict_contains ?_ (args_dict_contains _ _)))
  show wpAny _ _ (dictGet a u >>= _) _ _ s
  refine wpAny_bind (dx_get I hK hw (show A.in1.units + 8 < cLine by rw [Around.in1_units]; omega) ro rx ru hx (fun e tk => ?_) fun v vv uv e _ _ tk => ?_)
  · rw [e] at h
    show wpAny _ _ (Builtin.Dict.pendingKey? a u >>= _) _ _ _
    exact wpAny_bind (wpAny_pendingKey_other hs (wpAny_pure ⟨_, rfl, wpAny_truthy_bool (wpAny_pure (h tk))⟩))
  · rw [e] at h
    show wpAny _ _ (ret (.bool true)) _ _ _
    exact wpAny_pure ⟨_, rfl, wpAny_truthy_bool (wpAny_pure (h tk))⟩
theorem inB_rel {ι : Io} {h : AH} {H : Hp} {x y : W} {xv yv : V} {bb : Bool} (hK : X.K = G.K) (hw : X.w = G.w) (hu : X.A.units + 70 < cLine) (r : RlH G ι h H) (rx : RepW G ι H x xv) (ry : RepW G ι H y yv) (e : inB x y h = some bb) :
    ∀ (pins : List (Addr × Obj)) (s : Shared) (σ : L2.St) (v u : Value) (R : Value → Shared → Prop), Inv X pins σ H s → RelV xv v → RelV yv u →
      ((∀ tk, R (.bool bb) { s with toks := tk }) → wpAny (model X.prog X.w) X.A (compareOp .In v u) R X.xe s) ∧ ((∀ tk, R (.bool (!bb)) { s with toks := tk }) → wpAny (model X.prog X.w) X.A (compareOp .NotIn v u) R X.xe s) := by
  intro pins s σ v u R I rv ru
  unfold inB at e
  split at e
  · rename_i ds hy
    split at e
    · rename_i d hx
      split at e
      · rename_i ok
        cases e
        simp only [Bool.and_eq_true, decide_eq_true_eq] at ok
        obtain ⟨⟨p1, p2⟩, p3⟩ := ok
        have h1 := toD_dp r rx hx p1
        have h2 : Dp G.K H yv (.list ds) := toD_dp r ry hy (by simpa only [PyData.plain] using p2)
        rw [← hK] at h1 h2
        obtain ⟨as, r1⟩ := Dp.reads I d xv v h1 rv
        obtain ⟨bs, r2⟩ := Dp.reads I (.list ds) yv u h2 ru
        have room : X.A.units + 1 + min (PyData.depthAll ds) d.depth < cLine := by omega
        exact ⟨fun k => SeqAt.in_list_data r2 r1 p2 p1 room (k s.toks), fun k => SeqAt.notIn_list_data r2 r1 p2 p1 room (k s.toks)⟩
      · cases e
    · cases e
  · rename_i ds hy
    split at e
    · rename_i d hx
      split at e
      · rename_i ok
        cases e
        simp only [Bool.and_eq_true, decide_eq_true_eq] at ok
        obtain ⟨⟨p1, p2⟩, p3⟩ := ok
        have h1 := toD_dp r rx hx p1
        have h2 : Dp G.K H yv (.tuple ds) := toD_dp r ry hy (by simpa only [PyData.plain] using p2)
        rw [← hK] at h1 h2
        obtain ⟨as, r1⟩ := Dp.reads I d xv v h1 rv
        obtain ⟨bs, r2⟩ := Dp.reads I (.tuple ds) yv u h2 ru
        have room : X.A.units + 1 + min (PyData.depthAll ds) d.depth < cLine := by omega
        exact ⟨fun k => SeqAt.in_tuple_data r2 r1 p2 p1 room (k s.toks), fun k => SeqAt.notIn_tuple_data r2 r1 p2 p1 room (k s.toks)⟩
      · cases e
    · cases e
  · split at e
    · rename_i i k _ _
      split at e
      · rename_i kvs hi
        split at e
        · rename_i ok
          cases e
          obtain ⟨p, hp, rfl⟩ := ry
          obtain ⟨q, hq, ro⟩ := r.ob i _ hi
          rw [hp] at hq
          cases hq
          cases (show u = Value.ref p from ru)
          exact ⟨fun q => dx_in I hK hw (by omega) ro rx rv ok q, fun q => dx_notIn I hK hw (by omega) ro rx rv ok q⟩
        · cases e
      · cases e
    · cases e
theorem os_in (hK : X.K = G.K) (hw : X.w = G.w) (hu : X.A.units + 70 < cLine) : OpS G X (compareOp .In) inO := ⟨_, op_rInA (g := id), fun ι h H x y z u v Q r rx ry e k => by
  unfold inO at e
  cases eb : inB x y h with
  | none => rw [eb] at e; cases e
  | some b =>
    rw [eb] at e
    cases e
    exact ⟨b, okP.here k r (.bl b), fun pins s σ v u R I rv ru q => (inB_rel hK hw hu r rx ry eb pins s σ v u R I rv ru).1 q⟩⟩
theorem os_notIn (hK : X.K = G.K) (hw : X.w = G.w) (hu : X.A.units + 70 < cLine) : OpS G X (compareOp .NotIn) notInO := ⟨_, op_rInA (g := not), fun ι h H x y z u v Q r rx ry e k => by
  unfold notInO at e
  cases eb : inB x y h with
  | none => rw [eb] at e; cases e
  | some b =>
    rw [eb] at e
    cases e
    exact ⟨b, okP.here k r (.bl _), fun pins s σ v u R I rv ru q => (inB_rel hK hw hu r rx ry eb pins s σ v u R I rv ru).2 q⟩⟩
/-! ### a[b] -/
/-- the item at an index, from either end -/
def atW (xs : List W) (i : Int) : Option W := atI xs i
theorem atI_rep {F : W → V → Prop} {ws : List W} {vs : List V} {i : Int} {w : W} (p : Paired F ws vs) (e : atI ws i = some w) : ∃ v, atI vs i = some v ∧ F w v := by
  unfold atI at e ⊢
  rw [← p.length]
  cases q : ixN ws.length i with
  | none => rw [q] at e; cases e
  | some j =>
    rw [q] at e
    exact Paired.get1 p e
def ixO : Op2 := fun x y h => match x, y with
  | .d (.list ds), .d (.int i) => (atI ds i).map .d
  | .d (.tuple ds), .d (.int i) => (atI ds i).map .d
  | .ref k, .d j => match h.f k with
    | some (.lst ws) => match j with
      | .int i => atI ws i
      | _ => none
    | some (.dct kvs) => if keyOk j then lookD j kvs else none
    | _ => none
  | _, _ => none
theorem atI_map {α β : Type} (f : α → β) (xs : List α) (i : Int) : atI (xs.map f) i = (atI xs i).map f := by
  unfold atI
  rw [List.length_map]
  cases ixN xs.length i with
  | none => rfl
  | some j => simp
/-- a dict's item, whatever is wished -/
def rIxX (X : Cx) (G : Gd) : R2 := fun x y H Q => ∃ (ι : Io) (a : Addr) (kvs : List (PyData × W)) (k : PyData) (w : W), x = .ref a ∧ RepO G ι H a (.dct kvs) ∧ RepD G.K H y k ∧ keyOk k ∧ lookD k kvs = some w ∧ ∀ v, RepW G.bare ι H w v → Q v H
theorem ix_dx (hK : X.K = G.K) (hw : X.w = G.w) (hu : X.A.units + 70 < cLine) : IxR X (rIxX X G) := by
  intro value slice pins s σ H x y v u Q I rx ry h hs
  obtain ⟨ι, a, kvs, k, w, rfl, ro, rk, ok, hl, q⟩ := h
  cases rx
  have hT : s.TypeIs (.ref a) "dict" := by
    obtain ⟨_, _, _, rs, hH, _⟩ := id ro
    exact dx_typeIs I hH
  unfold subscriptTail
  refine wpAny_bind ?_
  rw [getitemInPython_of_ne hT.not_modules]
  refine wpAny_bind (wpAny_specialOf hT PySem.F.slot_dict_getitem.lookup ?_)
  have fin : wpAny (model X.prog X.w) X.A (subscripted slice false (.ref a) u) (fun r s₃ => wpAny (model X.prog X.w) X.A (letTemporaryGo value (.ref a) r >>= fun _ => pure r) (EP X pins σ Q) X.xe s₃) X.xe s := by
    rw [hs]
    exact wpAny_operating (dx_item I hK hw (by omega) ro rk ry ok hl fun vv uv r1 r2 tk => wpAny_bind (wpAny_letTemporaryGo (wpAny_pure ⟨vv, H, I.tok tk, r2, q vv r1⟩)))
  first
    | exact wpAny_pure (wpAny_bind fin)
    | exact wpAny_bind (wpAny_pure (wpAny_bind fin))
    | exact wpAny_bind fin
theorem je_sub (hK : X.K = G.K) (hw : X.w = G.w) (hu : X.A.units + 70 < cLine) (ha : JE G X ma a) (hb : JE G X mb b) (hs : PlainIx b := by exact fun _ _ => rfl) : JE G X (eOp ixO ma mb) (.Subscript a b pos) := fun U t => by
  refine (pe_ix ((ix_list (X := X)).or ((ix_tup (X := X)).or (ix_dx hK hw hu))) (ha U t) (hb U t) hs).imp fun σ H Q h => op_red (fun ι h H x y z u v Q r rx ry e k => ?_) h
  unfold ixO at e
  split at e
  · rename_i ds i
    cases q : atI ds i with
    | none => rw [q] at e; cases e
    | some d =>
      rw [q] at e
      cases e
      cases rx with
      | @lst p o xs _ h1 h2 =>
        cases ry
        obtain ⟨w, e1, e2⟩ := atI_rep (w := .d d) (rep_map (G := G) (ι := ι) h2) (by rw [atI_map, q]; rfl)
        exact .inl ⟨p, xs, i, w, rfl, rfl, .inl (.inr ⟨o, h1⟩), e1, okP.here k r e2⟩
  · rename_i ds i
    cases q : atI ds i with
    | none => rw [q] at e; cases e
    | some d =>
      rw [q] at e
      cases e
      cases rx with
      | @tup p xs _ h1 h2 =>
        cases ry
        obtain ⟨w, e1, e2⟩ := atI_rep (w := .d d) (rep_map (G := G) (ι := ι) h2) (by rw [atI_map, q]; rfl)
        exact .inr (.inl ⟨p, xs, i, w, rfl, rfl, by rw [hK]; exact h1, e1, okP.here k r e2⟩)
  · rename_i j d
    obtain ⟨p, hp, rfl⟩ := rx
    split at e
    · rename_i ws hi
      obtain ⟨q, hq, vs, hv, rw0⟩ := r.ob j _ hi
      rw [hp] at hq
      cases hq
      split at e
      · rename_i i
        cases ry
        obtain ⟨w, e1, e2⟩ := atI_rep rw0 e
        exact .inl ⟨p, vs, i, w, rfl, rfl, .inl (.inl hv), e1, okP.here k r e2.up⟩
      · cases e
    · rename_i kvs hi
      obtain ⟨q, hq, ro⟩ := r.ob j _ hi
      rw [hp] at hq
      cases hq
      split at e
      · rename_i ok
        exact .inr (.inr ⟨ι, p, kvs, d, z, rfl, ro, ry, ok, e, fun v rv => okP.here k r rv.up⟩)
      · cases e
    · cases e
  · cases e
/-! ### d[k] = v -/
def putIn (w x y : W) (ρ : Env') (h3 : AH) : OutS := match x, y with
  | .ref i, .d k => match h3.f i with
    | some (.dct kvs) => if w.flat = true ∧ keyOk k ∧ kvs.length < 1000000 then .nx ρ (h3.set i (.dct (putD k w kvs))) else .bad
    | _ => .bad
  | _, _ => .bad
def sPut (mo mi mv : SemE) : SemS := fun ρ h => (mv ρ h).st fun w h1 => (mo ρ h1).st fun x h2 => (mi ρ h2).st fun y h3 => putIn w x y ρ h3
theorem dx_code {pins : List (Addr × Obj)} {σ : L2.St} {s : Shared} {H : Hp} {p : Addr} {rs : List DictEntry} (I : Inv X pins σ H s) (h : H p = some (DX p rs)) (q : Str) : H p ≠ some (CodeO p q) := fun z => by
  obtain ⟨o, ep, ho, hc, hd⟩ := dx_obj I h
  obtain ⟨⟨oc, vs, t, e1, e2, _⟩, _⟩ := I.hok p _ z
  rw [ho] at e1
  cases e1
  rw [hd] at e2
  cases e2
theorem loose_dx {pins : List (Addr × Obj)} {σ : L2.St} {s : Shared} {H : Hp} {p : Addr} {rs : List DictEntry} (I : Inv X pins σ H s) (e : H p = some (DX p rs)) : Loose H p := ⟨fun _ z => (by rw [e] at z; cases z), fun _ _ z => (by rw [e] at z; cases z), fun _ z => (by rw [e] at z; cases z), dx_code I e⟩
theorem js_put {o i value : Expr} {pos' : Pos} {mo mi mv : SemE} (hK : X.K = G.K) (hw : X.w = G.w) (hu : X.A.units + 70 < cLine) (ho : JE G X mo o) (hi : JE G X mi i) (hv : JE G X mv value) (hs : swapsWith value (some (.Subscript o i pos')) pos.line X.env = pure false := by rfl) :
    JS G X (sPut mo mi mv) (.Assign [.Subscript o i pos'] value pos) := fun U t => by
  refine ⟨fun pins s σ H D I h => ?_⟩
  have h' : rdE G U mv σ H fun v H1 => ∃ (ι1 : Io) (ρ : Env') (w : W) (h1 : AH), RlH G ι1 h1 H1 ∧ RlE G ι1 ρ σ H1 ∧ RepW G ι1 H1 w v ∧ stP G ι1 H1 U D ((mo ρ h1).st fun x h2 => (mi ρ h2).st fun y h3 => putIn w x y ρ h3) := rdS_bind (k := fun w ρ h1 => (mo ρ h1).st fun x h2 => (mi ρ h2).st fun y h3 => putIn w x y ρ h3) h fun ι1 ρ x h1 v H1 r1 re1 v1 q => ⟨ι1, ρ, x, h1, r1, re1, v1, q⟩
  refine wpAny_Assign_Subscript (thn ((hv U t).run pins s σ H _ I h') fun r s1 ⟨v, H1, I1, rv, ι1, ρ, w, h1, r1, re1, v1, q1⟩ => ?_) hs
  have q1' := st_to (σ := σ) q1
  have h2' : rdE G U mo σ H1 fun x H2 => ∃ (ι2 : Io) (x' : W) (h2 : AH), Ext ι1 H1 ι2 H2 ∧ RlH G ι2 h2 H2 ∧ RepW G ι2 H2 x' x ∧ stP G ι2 H2 U D ((mi ρ h2).st fun y h3 => putIn w x' y ρ h3) := ⟨ι1, ρ, h1, r1, re1, Out.to_mono q1' (fun x' h2 z ι2 x H2 e2 r2 x2 => ⟨ι2, x', h2, e2, r2, x2, z.up e2⟩) fun _ _ _ z => z⟩
  refine thn ((ho U t).run pins s1 σ H1 _ I1 h2') fun u s2 ⟨x, H2, I2, rx, ι2, x', h2, e2, r2, x2, q2⟩ => ?_
  have q2' := st_to (σ := σ) q2
  have h3' : rdE G U mi σ H2 fun y H3 => ∃ (ι3 : Io) (y' : W) (h3 : AH), Ext ι2 H2 ι3 H3 ∧ RlH G ι3 h3 H3 ∧ RepW G ι3 H3 y' y ∧ stP G ι3 H3 U D (putIn w x' y' ρ h3) := ⟨ι2, ρ, h2, r2, re1.mono e2, Out.to_mono q2' (fun x' h3 z ι3 x H3 e3 r3 x3 => ⟨ι3, x', h3, e3, r3, x3, z.up e3⟩) fun _ _ _ z => z⟩
  refine thn ((hi U t).run pins s2 σ H2 _ I2 h3') fun iv s3 ⟨y, H3, I3, ry, ι3, y', h3, e3, r3, y3, q3⟩ => ?_
  unfold putIn at q3
  split at q3
  · rename_i j k _
    split at q3
    · rename_i kvs hj
      split at q3
      · rename_i ok
        obtain ⟨hf, hk, hl⟩ := ok
        obtain ⟨p, hp, rfl⟩ := x2
        cases (show u = Value.ref p from rx)
        have hp3 := e3.up _ _ hp
        obtain ⟨q, hq, ro⟩ := r3.ob j _ hj
        rw [hp3] at hq
        cases hq
        obtain ⟨_, _, _, rs, hH, _⟩ := id ro
        have vb := ((v1.down hf).mono e2).mono e3
        have hl' : kvs.length < sizeLine := by rw [sizeLine_eq]; omega
        refine dx_set I3 hK hw (by omega) ro hl' y3 ry hk vb rv fun rs' s4 I4 pr => ?_
        have lo : Loose H3 p := loose_dx I3 hH
        have x4 : Ext ι3 H3 ι3 (upd H3 p (DX p rs')) := .write hp3 lo
        refine ⟨σ, _, I4, q3 ι3 σ _ x4 (r3.write hp3 lo ⟨ro.1, ?_, putD_nodup ro.2.2.1, rs', upd_same, paired_mono (fun _ _ r => r.mono0 x4.lo) pr⟩) (((re1.mono e2).mono e3).mono x4)⟩
        have := putD_length k w kvs
        omega
      · exact q3.elim
    · exact q3.elim
  · exact q3.elim
/-! ### {}, {'k': v, ..} -/
def eDctD : SemE := fun _ h => .ok (.d (.dict [])) h
def eDctH : SemE := fun _ h => .ok (.ref h.n) (h.new (.dct []))
theorem je_dctD : JE G X eDctD (.Dict [] [] pos) := fun U t => ⟨fun pins s σ H Q I ⟨ι, ρ, h0, rh, re, m⟩ => by
  refine wpAny_Dict_empty ?_
  have n := I.hok.fresh (Nat.le_refl s.heap.objs.size)
  refine ⟨.ref s.heap.objs.size, _, I.laid (a := s.heap.objs.size) (o := .frz { cls := .type "dict", data := .dict #[] } (.dK [])) (t' := s.toks) (fun _ _ q => Heap.get?_push_of_some _ q) (Nat.le_refl _) ⟨Heap.get?_push_size _ rfl, dk_empty s.heap I.big⟩, rfl, ?_⟩
  exact m ι _ _ (.fresh n) (rh.fresh n) (.dct upd_same)⟩
theorem je_dctH : JE G X eDctH (.Dict [] [] pos) := fun U t => ⟨fun pins s σ H Q I ⟨ι, ρ, h0, rh, re, m⟩ => by
  refine wpAny_Dict_empty ?_
  have n := I.hok.fresh (Nat.le_refl s.heap.objs.size)
  have ok : ∀ H' : Hp, ObjOk X.prog X.w H' (s.heap.push { cls := .type "dict", data := .dict #[] }) s.heap.objs.size (DX s.heap.objs.size []) := fun H' => by
    refine ⟨⟨_, 0, Heap.get?_push_size _ rfl, ⟨rfl, rfl, rfl⟩, rfl⟩, ⟨_, Heap.get?_push_size _ rfl⟩, ?_⟩
    rintro h1 h2 ⟨o1, ep1, f1, f2, f3⟩ st
    exact ⟨o1, ep1, st _ f1, f2, f3⟩
  refine ⟨.ref s.heap.objs.size, _, I.laid (a := s.heap.objs.size) (o := DX s.heap.objs.size []) (t' := s.toks) (fun _ _ q => Heap.get?_push_of_some _ q) (Nat.le_refl _) (ok _), rfl, ?_⟩
  refine m _ _ _ (rh.newExt n) (rh.new n ⟨beq_eq_false_iff_ne.mpr (Ne.symm (Nat.ne_of_lt I.big)), Nat.zero_le _, List.nodup_nil, [], upd_same, .nil⟩) ⟨_, Io.new_same, rfl⟩⟩
/-- keys that are texts, values by a row of them -/
def eDisp (ks : List Str) (ms : SemA) : SemE := fun ρ h => (ms ρ h).bind fun ws h1 => if ws.all W.flat = true ∧ ws.length = ks.length then .ok (.ref h1.n) (h1.new (.dct ((ks.zip ws).map fun p => (.str p.1, p.2)))) else .bad
def JP (G : Gd) (X : Cx) (ks : List Str) (ms : SemA) (keys : List (Option Expr)) (values : List Expr) : Prop := keys.length = ks.length ∧ values.length = ks.length ∧ keys.all (·.isSome) = true ∧ ∀ (U : WX) (pos : Pos), Takes X U → ∃ trs, PPs X pos keys values trs ∧ ∀ σ H Q, (rdA G U ms σ H fun vs H' => Q ((ks.map V.str).zip vs) H') → tPairs trs σ H Q
theorem jp_nil : JP G X [] aNil [] [] := ⟨rfl, rfl, rfl, fun U pos t => ⟨[], pps_nil, fun σ H Q ⟨ι, ρ, h0, rh, re, m⟩ => m ι [] H .refl rh .nil⟩⟩
theorem jp_cons {k : Str} {ks : List Str} {m : SemE} {ms : SemA} {keys : List (Option Expr)} {values : List Expr} {e : Expr} {j : Nat} {p : Pos} (he : JE G X m e) (hr : JP G X ks ms keys values) : JP G X (k :: ks) (aCons m ms) (some (.Constant (.str k) j p) :: keys) (e :: values) := by
  obtain ⟨l1, l2, l3, hr⟩ := hr
  refine ⟨by simp [l1], by simp [l2], by simpa using l3, fun U pos t => ?_⟩
  obtain ⟨trs, h1, h2⟩ := hr U pos t
  refine ⟨(_, _) :: trs, pps_cons pe_str (he U t) h1, fun σ H Q h => ?_⟩
  show rdE G U m σ H fun y H2 => tPairs trs σ H2 fun ps H3 => Q ((.str k, y) :: ps) H3
  obtain ⟨ι, ρ, h0, rh, re, q⟩ := h
  unfold aCons at q
  rw [to_bind] at q
  refine ⟨ι, ρ, h0, rh, re, Out.to_mono q (fun x h1 z ι1 v H1 e1 r1 v1 => h2 σ H1 _ ?_) fun _ _ _ z => z⟩
  rw [to_bind] at z
  refine ⟨ι1, ρ, h1, r1, re.mono e1, Out.to_mono z (fun xs h2 z2 ι2 vs H2 e2 r2 v2 => ?_) fun _ _ _ z2 => z2.up e1⟩
  exact z2 ι2 _ H2 (e1.trans e2) r2 (.cons (v1.mono e2) v2)
theorem merged_nodup {K : Type} [DecidableEq K] : ∀ (more kvs : List (K × Value)), ((kvs ++ more).map (·.1)).Nodup → merged kvs more = kvs ++ more
  | [], kvs, _ => by simp [merged]
  | p :: more, kvs, n => by
    have hn : kvs.any (fun kv => kv.1 = p.1) = false := by
      rw [List.any_eq_false]
      intro q hq z
      have z : q.1 = p.1 := of_decide_eq_true z
      rw [List.map_append, List.nodup_append] at n
      exact n.2.2 q.1 (List.mem_map_of_mem hq) p.1 (by simp) z
    have e : stored kvs p.1 p.2 = kvs ++ [p] := by
      unfold stored
      rw [hn]
      rfl
    show merged (stored kvs p.1 p.2) more = _
    rw [e, merged_nodup more (kvs ++ [p]) (by simpa using n)]
    simp
end
end Q

set_option Elab.async false
set_option maxRecDepth 100000
set_option linter.all false
set_option autoImplicit false
/-! QO: calls of built-ins, isinstance, methods of lists, displays of dicts, comprehensions into lists of the heap. -/
namespace Q
open PySem PySem.Spec PyProof.Rows L2 LamX

abbrev OpN := List W → AH → Option W
def eApp (o : OpN) (ms : SemA) : SemE := fun ρ h => (ms ρ h).bind fun xs h1 => .ofOpt (o xs h1) h1
def CallS (G : Gd) (X : Cx) (f : Value) (o : OpN) : Prop := ∃ r : List V → Hp → VK → Prop, CallR X f r ∧ ∀ (ι : Io) (h : AH) (H : Hp) (xs : List W) (z : W) (vs : List V) (Q : VK), RlH G ι h H → RepWs G ι H xs vs → o xs h = some z → okP G ι H Q z h → r vs H Q
section
variable {G : Gd} {X : Cx} {pos : Pos} {e : Expr} {es : List Expr} {ms : SemA} {o : OpN} {x : Str} {p : Pos} {id T : String}
theorem app_red {U : WX} {σ : L2.St} {H : Hp} {Q : VK} {r : List V → Hp → VK → Prop} (hr : ∀ (ι : Io) (h : AH) (H : Hp) (xs : List W) (z : W) (vs : List V) (Q : VK), RlH G ι h H → RepWs G ι H xs vs → o xs h = some z → okP G ι H Q z h → r vs H Q) (h : rdE G U (eApp o ms) σ H Q) : tCB r (rdA G U ms) σ H Q := by
  refine rdA_bind (k := fun xs h1 => .ofOpt (o xs h1) h1) h fun ι1 xs h1 vs H1 r1 v1 m1 => ?_
  obtain ⟨z, ez, k⟩ := to_ofOpt m1
  exact hr ι1 h1 H1 xs z vs Q r1 v1 ez k
theorem je_callB (hc : CallS G X (.builtin id) o) (hg : Gl X x) (hm : X.mg x = none) (hv : bootBuiltins x = some (.builtin id)) (ha : JA G X ms (e :: es)) (hn : x ≠ "__name__" := by decide) (hdb : (x == ("__debug__" : Str)) = false := by decide)
    (he : starEach (e :: es) X.env = (false, eval e X.env) :: starEach es X.env := by rfl) (hpl : (backTo pos (starEach es X.env)).any (·.1) = false := by rfl) : JE G X (eApp o ms) (.Call (.Name x p) (e :: es) [] pos) := fun U t => by
  obtain ⟨r, h1, h2⟩ := hc
  exact (pe_callB h1 hg hm hv (ha U t) hn hdb he hpl).imp fun σ H Q h => app_red h2 h
theorem je_callTy (hc : CallS G X (.type T) o) (hg : Gl X x) (hm : X.mg x = none) (hv : bootBuiltins x = some (.type T)) (ha : JA G X ms (e :: es)) (hn : x ≠ "__name__" := by decide) (hdb : (x == ("__debug__" : Str)) = false := by decide)
    (he : starEach (e :: es) X.env = (false, eval e X.env) :: starEach es X.env := by rfl) (hpl : (backTo pos (starEach es X.env)).any (·.1) = false := by rfl) : JE G X (eApp o ms) (.Call (.Name x p) (e :: es) [] pos) := fun U t => by
  obtain ⟨r, h1, h2⟩ := hc
  exact (pe_callTy h1 hg hm hv (ha U t) hn hdb he hpl).imp fun σ H Q h => app_red h2 h
theorem ws1 {ι : Io} {H : Hp} {w : W} {vs : List V} (r : RepWs G ι H [w] vs) : ∃ v, vs = [v] ∧ RepW G ι H w v := by
  cases r with
  | cons a b =>
    cases b
    exact ⟨_, rfl, a⟩
theorem ws2 {ι : Io} {H : Hp} {w w' : W} {vs : List V} (r : RepWs G ι H [w, w'] vs) : ∃ v v', vs = [v, v'] ∧ RepW G ι H w v ∧ RepW G ι H w' v' := by
  cases r with
  | cons a b =>
    obtain ⟨v', e, b⟩ := ws1 b
    exact ⟨_, v', by rw [e], a, b⟩
def absO : OpN := fun xs _ => match xs with
  | [.d (.int i)] => some (.d (.int (if i < 0 then -i else i)))
  | _ => none
theorem cs_abs : CallS G X (.builtin "abs") absO := ⟨_, call_abs, fun ι h H xs z vs Q r rv e k => by
  unfold absO at e
  split at e
  · cases e
    obtain ⟨v, rfl, a⟩ := ws1 rv
    cases a
    exact ⟨_, rfl, okP.here k r (.int _)⟩
  · cases e⟩
def minO : OpN := fun xs _ => match xs with
  | [.d (.int i), .d (.int j)] => some (.d (.int (if j < i then j else i)))
  | _ => none
theorem cs_min (hc : X.calm = true) : CallS G X (.builtin "min") minO := ⟨_, call_min2 hc, fun ι h H xs z vs Q r rv e k => by
  unfold minO at e
  split at e
  · cases e
    obtain ⟨v, v', rfl, a, b⟩ := ws2 rv
    cases a
    cases b
    exact ⟨_, _, rfl, okP.here k r (.int _)⟩
  · cases e⟩
def intO : OpN := fun xs _ => match xs with
  | [.d (.int i)] => some (.d (.int i))
  | _ => none
theorem cs_int : CallS G X (.type "int") intO := ⟨_, call_int1, fun ι h H xs z vs Q r rv e k => by
  unfold intO at e
  split at e
  · cases e
    obtain ⟨v, rfl, a⟩ := ws1 rv
    cases a
    exact .inl ⟨_, rfl, okP.here k r (.int _)⟩
  · cases e⟩
def lenO : OpN := fun xs h => match xs with
  | [.d (.tuple ds)] => some (.d (.int (ds.length : Nat)))
  | [.d (.str z)] => if z.length ≤ 1000000 then some (.d (.int (z.length : Nat))) else none
  | [w] => (lenL h w).map fun n => .d (.int (n : Nat))
  | _ => none
theorem cs_len (hK : X.K = G.K) : CallS G X (.builtin "len") lenO := ⟨_, CallR.or call_len_seq call_len_str, fun ι h H xs z vs Q r rv e k => by
  unfold lenO at e
  split at e
  · cases e
    obtain ⟨v, rfl, a⟩ := ws1 rv
    cases a with
    | @tup p xs _ h1 h2 =>
      rw [← h2.length] at k
      exact .inl ⟨p, xs, rfl, .inr (by rw [hK]; exact h1), okP.here k r (.int _)⟩
  · split at e
    · rename_i hl
      cases e
      obtain ⟨v, rfl, a⟩ := ws1 rv
      cases a
      exact .inr ⟨_, rfl, million hl, okP.here k r (.int _)⟩
    · cases e
  · rename_i w _ _
    cases el : lenL h w with
    | none => rw [el] at e; cases e
    | some n =>
      rw [el] at e
      cases e
      obtain ⟨v, rfl, a⟩ := ws1 rv
      obtain ⟨p, ys, rfl, q, l⟩ := lenL_of r a el
      rw [← l] at k
      exact .inl ⟨p, ys, rfl, .inl q.sq, okP.here k r (.int _)⟩
  · cases e⟩
def tupleO : OpN := fun xs h => match xs with
  | [w] => match toD h w with
    | some (.list ds) => some (.d (.tuple ds))
    | some (.tuple ds) => some (.d (.tuple ds))
    | _ => none
  | _ => none
theorem cs_tuple (hK : X.K = G.K) : CallS G X (.type "tuple") tupleO := ⟨_, call_tuple_of, fun ι h H xs z vs Q r rv e k => by
  unfold tupleO at e
  split at e
  · obtain ⟨v, rfl, a⟩ := ws1 rv
    split at e
    · rename_i ds hd
      cases e
      obtain ⟨p, ys, rfl, h1, h2⟩ := toD_list r a hd
      exact ⟨p, ys, rfl, .inl ⟨h1.sq, fun l nl => k ι _ _ (.fresh nl) (r.fresh nl) (.tup (.inl (.inl upd_same)) (RepDs.mono (Stb.fresh nl) _ _ h2))⟩⟩
    · rename_i ds hd
      cases e
      have q := toD_data a hd fun _ z => by cases z
      cases q with
      | @tup p ys _ h1 h2 => exact ⟨p, ys, rfl, .inr ⟨by rw [hK]; exact h1, okP.here k r (.tup h1 h2)⟩⟩
    · cases e
  · cases e⟩
/-- list(..), by value -/
def listO : OpN := fun xs h => match xs with
  | [w] => match toD h w with
    | some (.list ds) => some (.d (.list ds))
    | some (.tuple ds) => some (.d (.list ds))
    | _ => none
  | _ => none
def rFrzN (r : List V → Hp → VK → Prop) : List V → Hp → VK → Prop := fun vs H Q => r vs H fun v H' => ∃ a xs, v = .ref a ∧ H' a = some (.lst xs) ∧ ∀ o, Q v (upd H' a (frzO xs o))
theorem call_frz {f : Value} {r : List V → Hp → VK → Prop} (ho : CallR X f r) : CallR X f (rFrzN r) := by
  intro pins s σ H vs us Q I rv h
  refine thn (ho pins s σ H vs us _ I rv h) fun w s1 hv => ?_
  obtain ⟨z, H1, I1, r1, a, xs, e1, h1, q⟩ := hv
  obtain ⟨o, J⟩ := I1.frz h1
  exact ⟨z, _, J, r1, q o⟩
theorem cs_list (hK : X.K = G.K) : CallS G X (.type "list") listO := ⟨_, call_frz call_list_of, fun ι h H xs z vs Q r rv e k => by
  unfold listO at e
  split at e
  · obtain ⟨v, rfl, a⟩ := ws1 rv
    split at e
    · rename_i ds hd
      cases e
      obtain ⟨p, ys, rfl, h1, h2⟩ := toD_list r a hd
      refine ⟨p, ys, rfl, .inl h1.sq, fun l nl => ⟨l, _, rfl, upd_same, fun o => ?_⟩⟩
      rw [upd2]
      exact k ι _ _ (.fresh nl) (r.fresh nl) (.lst upd_same (RepDs.mono (Stb.fresh nl) _ _ h2))
    · rename_i ds hd
      cases e
      have q := toD_data a hd fun _ z => by cases z
      cases q with
      | @tup p ys _ h1 h2 =>
        refine ⟨p, ys, rfl, .inr (by rw [hK]; exact h1), fun l nl => ⟨l, _, rfl, upd_same, fun o => ?_⟩⟩
        rw [upd2]
        exact k ι _ _ (.fresh nl) (r.fresh nl) (.lst upd_same (RepDs.mono (Stb.fresh nl) _ _ h2))
    · cases e
  · cases e⟩
def allBl : List PyData → Option (List Bool)
  | [] => some []
  | .bool b :: ds => (allBl ds).map (b :: ·)
  | _ :: _ => none
theorem allBl_rep {K : PySem.W.Frag} {H : Hp} : ∀ {ds : List PyData} {bs : List Bool} {vs : List V}, allBl ds = some bs → RepDs K H vs ds → vs = bs.map V.bl
  | [], _, _, e, r => by cases e; cases r; rfl
  | .bool b :: ds, _, _, e, r => by
    cases r with
    | cons r1 r2 =>
      cases q : allBl ds with
      | none => simp [allBl, q] at e
      | some bs =>
        simp [allBl, q] at e
        subst e
        cases r1
        rw [allBl_rep q r2]
        rfl
  | .none :: _, _, _, e, _ => by simp [allBl] at e
  | .int _ :: _, _, _, e, _ => by simp [allBl] at e
  | .str _ :: _, _, _, e, _ => by simp [allBl] at e
  | .list _ :: _, _, _, e, _ => by simp [allBl] at e
  | .tuple _ :: _, _, _, e, _ => by simp [allBl] at e
  | .dict _ :: _, _, _, e, _ => by simp [allBl] at e
def allO : OpN := fun xs h => match xs with
  | [w] => match toD h w with
    | some (.list ds) => (allBl ds).map fun bs => .d (.bool (bs.all (fun b => b)))
    | _ => none
  | _ => none
theorem cs_all (hK : X.K = G.K) (hc : X.calm = true) : CallS G X (.builtin "all") allO := ⟨_, cr_all hc, fun ι h H xs z vs Q r rv e k => by
  unfold allO at e
  split at e
  · obtain ⟨v, rfl, a⟩ := ws1 rv
    split at e
    · rename_i ds hd
      cases eb : allBl ds with
      | none => rw [eb] at e; cases e
      | some bs =>
        rw [eb] at e
        cases e
        obtain ⟨p, ys, rfl, h1, h2⟩ := toD_list r a hd
        have := allBl_rep eb h2
        subst this
        exact ⟨p, bs, rfl, h1.sq, okP.here k r (.bl _)⟩
    · cases e
  · cases e⟩
def anyO : OpN := fun xs h => match xs with
  | [w] => match toD h w with
    | some (.list ds) => (allBl ds).map fun bs => .d (.bool (bs.any (fun b => b)))
    | _ => none
  | _ => none
theorem cs_any (hK : X.K = G.K) (hc : X.calm = true) : CallS G X (.builtin "any") anyO := ⟨_, cr_any hc, fun ι h H xs z vs Q r rv e k => by
  unfold anyO at e
  split at e
  · obtain ⟨v, rfl, a⟩ := ws1 rv
    split at e
    · rename_i ds hd
      cases eb : allBl ds with
      | none => rw [eb] at e; cases e
      | some bs =>
        rw [eb] at e
        cases e
        obtain ⟨p, ys, rfl, h1, h2⟩ := toD_list r a hd
        have := allBl_rep eb h2
        subst this
        exact ⟨p, bs, rfl, h1.sq, okP.here k r (.bl _)⟩
    · cases e
  · cases e⟩
end

/-! ### isinstance -/
/-- a type: a built-in one, an own class of instances, an own class of errors -/
inductive Tn where
  | b (s : String)
  | o (c : String)
  | e (c : String)
deriving DecidableEq
def typD : PyData → String
  | .none => "NoneType"
  | .bool _ => "bool"
  | .int _ => "int"
  | .str _ => "str"
  | .list _ => "list"
  | .tuple _ => "tuple"
  | .dict _ => "dict"
def typW (h : AH) : W → Option Tn
  | .d x => some (.b (typD x))
  | .ref i => match h.f i with
    | some (.lst _) => some (.b "list")
    | some (.dct _) => some (.b "dict")
    | some (.ins c _) => some (.o c)
    | none => none
  | .exc c fs => some (.e c)
  | .clos _ => some (.b "list")
  | .clo _ => none
def basics : List String := ["NoneType", "bool", "int", "str", "list", "tuple", "dict"]
def subB (a t : String) : Option Bool := if a = t then some true else if a = "bool" ∧ t = "int" then some true else if a ∈ basics ∧ t ∈ basics then some false else none
theorem subB_kit : basics.all (fun a => basics.all fun t => decide (kitB a t = subB a t)) = true := by decide +kernel
theorem typD_basic (x : PyData) : typD x ∈ basics := by cases x <;> simp [typD, basics]
/-- isinstance(x, T): the answers by the type of x -/
structure IsiOk (G : Gd) (X : Cx) (u : Value) (f : Tn → Option Bool) : Prop where
  b : ∀ s r, s ∈ basics → f (.b s) = some r → PySem.W.kitOne X.K (.type s) u = some r
  o : ∀ c r, f (.o c) = some r → ∃ C, G.mg (Str.ofString c) = some (.ref C) ∧ PySem.W.kitOne X.K (.ref C) u = some r ∧ C8.InsC X.K C
  e : ∀ c r, f (.e c) = some r → ∃ C, G.mg (Str.ofString c) = some (.ref C) ∧ PySem.W.kitOne X.K (.ref C) u = some r ∧ ExcC X.K C
def isiO (f : Tn → Option Bool) : Op1 := fun x h => ((typW h x).bind f).map bO
def Kitt (X : Cx) (x : V) (H : Hp) (t : Value) : Prop := ∀ (pins : List (Addr × Obj)) (s : Shared) (σ : L2.St) (u : Value), Inv X pins σ H s → RelV x u → ∃ P : Heap → Prop, PySem.W.KitX X.K u t P ∧ P s.heap ∧ u ≠ .builtin "__main__.__loader__#opaque"
def rIsiK (X : Cx) : List V → Hp → VK → Prop := fun xs H Q => ∃ (x c : V) (t u : Value) (b : Bool), xs = [x, c] ∧ ClsV c u ∧ Kitt X x H t ∧ PySem.W.kitOne X.K t u = some b ∧ Q (.bl b) H
section
variable {G : Gd} {X : Cx} {pos p p2 : Pos} {a : Expr} {m : SemE}
theorem call_isK : CallR X (.builtin "isinstance") (rIsiK X) := by
  intro pins s σ H xs us Q I r h
  obtain ⟨x, c, t, u, b, rfl, k, ty, e, q⟩ := h
  obtain ⟨u1, u2, rfl, r1, r2⟩ := vals2 r
  have e2 := k.eq r2
  subst e2
  obtain ⟨P, Z, pp, hx⟩ := ty pins s σ u1 I r1
  exact PySem.W.kia_one Z I.kIn pp e hx fun tk => ⟨.bl b, H, I.tok tk, rfl, q⟩
theorem Kitt.of {x : V} {H : Hp} {t : Value} (h : TyX X.K H x t) : Kitt X x H t := fun pins s σ u I r => kit_of I r h
theorem typW_kit {ι : Io} {h : AH} {H : Hp} {x : W} {v : V} {t : Tn} {u : Value} {f : Tn → Option Bool} {b : Bool} (hK : X.K = G.K) (ok : IsiOk G X u f) (r : RlH G ι h H) (rx : RepW G ι H x v) (e : typW h x = some t) (ef : f t = some b) : ∃ tv, Kitt X v H tv ∧ PySem.W.kitOne X.K tv u = some b := by
  cases x with
  | d y =>
    cases (Option.some.inj e)
    refine ⟨_, ?_, ok.b _ _ (typD_basic y) ef⟩
    cases rx with
    | non => exact .of (.base .non)
    | bl b => exact .of (.base (.bl b))
    | int i => exact .of (.base (.int i))
    | str z => exact .of (.base (.str z))
    | lst h1 h2 => exact .of (.base (.frz h1))
    | tup h1 h2 =>
      rcases h1 with (h1 | ⟨ob, h1⟩) | ⟨ob, its, n, h1, h2, _⟩
      · exact .of (.base (.tup h1))
      · exact .of (.fTuple h1)
      · exact .of (.kTuple (by rw [hK]; exact h1) h2)
    | dct h1 => exact .of (.fDict h1)
  | ref i =>
    obtain ⟨a, hi, rfl⟩ := rx
    simp only [typW] at e
    split at e
    · rename_i ws hf
      cases e
      obtain ⟨c, hc, vs, h1, _⟩ := r.ob i _ hf
      rw [hi] at hc
      cases hc
      exact ⟨_, .of (.base (.lst h1)), ok.b _ _ (by decide) ef⟩
    · rename_i kvs hf
      cases e
      obtain ⟨c, hc, _, _, _, rs, h1, _⟩ := r.ob i _ hf
      rw [hi] at hc
      cases hc
      refine ⟨_, fun pins s σ u I rv => ?_, ok.b _ _ (by decide) ef⟩
      cases rv
      obtain ⟨o, ep, e1, e2, _⟩ := dx_obj I h1
      exact ⟨_, PySem.W.kitx_dict, ⟨o, e1, e2.1⟩, fun z => nomatch z⟩
    · rename_i c fs hf
      cases e
      obtain ⟨c', hc, C, dx, fvs, g1, h1, _⟩ := r.ob i _ hf
      rw [hi] at hc
      cases hc
      obtain ⟨C', g2, k, F⟩ := ok.o _ _ ef
      rw [g1] at g2
      cases g2
      exact ⟨_, .of (.base (.ins h1 F.cl F.ha F.hn F.htk F.hm)), k⟩
    · cases e
  | exc c fs =>
    cases (Option.some.inj e)
    obtain ⟨a, C, o, vs, rfl, g1, h1, h2, h3, h4, _⟩ := rx
    obtain ⟨C', g2, k, F⟩ := ok.e _ _ ef
    rw [g1] at g2
    cases g2
    refine ⟨_, fun pins s σ u I rv => ?_, k⟩
    cases rv
    obtain ⟨e1, _⟩ := I.hok a _ h1
    refine ⟨_, PySem.W.handS_kitx_exc (ox := o) F.hg F.hk F.hs F.hd F.ha F.hn F.ht F.hm, ?_, fun z => nomatch z⟩
    obtain ⟨oc, od, oda, osl⟩ := o
    dsimp only at h2 h3 h4
    subst h2 h3 h4
    exact ⟨e1, rfl, rfl, trivial⟩
  | clo k => cases e
  | clos ks =>
    cases (Option.some.inj e)
    obtain ⟨a, o, vs, rfl, h1, _⟩ := rx
    exact ⟨_, .of (.base (.frz h1)), ok.b _ _ (by decide) ef⟩
theorem isi_red {U : WX} {σ : L2.St} {H : Hp} {Q : VK} {c : V} {u : Value} {f : Tn → Option Bool} (hK : X.K = G.K) (ok : IsiOk G X u f) (hc : ClsV c u) (h : rdE G U (eUn (isiO f) m) σ H Q) : tCB (rIsiK X) (tCons (rdE G U m) (tCons (L2.tC c) tNil)) σ H Q := by
  refine rd_bind (k := fun x ρ h1 => .ofOpt (isiO f x h1) h1) h fun ι ι1 ρ x h1 v H1 e1 r1 re1 v1 m1 => ?_
  obtain ⟨z, ez, k⟩ := to_ofOpt m1
  unfold isiO at ez
  cases et : typW h1 x with
  | none => rw [et] at ez; cases ez
  | some t =>
    rw [et] at ez
    have ez : (f t).map bO = some z := ez
    cases ef : f t with
    | none => rw [ef] at ez; cases ez
    | some b =>
      rw [ef] at ez
      cases ez
      obtain ⟨tv, k1, k2⟩ := typW_kit hK ok r1 v1 et ef
      exact ⟨v, c, tv, u, b, rfl, hc, k1, k2, okP.here k r1 (.bl b)⟩
theorem je_isiB {T : String} {x : Str} {f : Tn → Option Bool} (hK : X.K = G.K) (ok : IsiOk G X (.type T) f) (hg : Gl X "isinstance") (hm : X.mg "isinstance" = none) (hgx : Gl X x) (hmx : X.mg x = none) (hv : bootBuiltins x = some (.type T)) (ha : JE G X m a) (hnx : x ≠ "__name__" := by decide) (hdx : (x == ("__debug__" : Str)) = false := by decide)
    (he : starEach [a, .Name x p2] X.env = (false, eval a X.env) :: starEach [.Name x p2] X.env := by rfl) (he2 : starEach [.Name x p2] X.env = [(false, eval (.Name x p2) X.env)] := by rfl) (hpl : (backTo pos (starEach [.Name x p2] X.env)).any (·.1) = false := by rfl) : JE G X (eUn (isiO f) m) (.Call (.Name "isinstance" p) [a, .Name x p2] [] pos) := fun U t =>
  (pe_callB call_isK hg hm boot_isinstance (pa_cons (ha U t) (pa_cons (pe_bltn (v := .ty T) hgx hmx hv rfl hnx hdx) pa_nil he2) he) (he := he) (hpl := hpl)).imp fun σ H Q h => isi_red hK ok (.ty T) h
theorem je_isiC {x : String} {C : Addr} {f : Tn → Option Bool} (hK : X.K = G.K) (ok : IsiOk G X (.ref C) f) (hg : Gl X "isinstance") (hm : X.mg "isinstance" = none) (hgx : Gl X (Str.ofString x)) (hmx : X.mg (Str.ofString x) = some (.ref C)) (ha : JE G X m a) (hdx : (Str.ofString x == ("__debug__" : Str)) = false := by decide)
    (he : starEach [a, .Name (Str.ofString x) p2] X.env = (false, eval a X.env) :: starEach [.Name (Str.ofString x) p2] X.env := by rfl) (he2 : starEach [.Name (Str.ofString x) p2] X.env = [(false, eval (.Name (Str.ofString x) p2) X.env)] := by rfl) (hpl : (backTo pos (starEach [.Name (Str.ofString x) p2] X.env)).any (·.1) = false := by rfl) : JE G X (eUn (isiO f) m) (.Call (.Name "isinstance" p) [a, .Name (Str.ofString x) p2] [] pos) := fun U t =>
  (pe_callB call_isK hg hm boot_isinstance (pa_cons (ha U t) (pa_cons (pe_glob (v := .ref C) hgx hmx rfl hdx) pa_nil he2) he) (he := he) (hpl := hpl)).imp fun σ H Q h => isi_red hK ok (.own C) h
end
end Q

set_option Elab.async false
set_option maxRecDepth 100000
set_option linter.all false
set_option autoImplicit false
/-! QP: assignments to tuples of names, methods of lists, displays of dicts, comprehensions into lists of the heap. -/
namespace Q
open PySem PySem.Spec PyProof.Rows L2 LamX

section
variable {G : Gd} {X : Cx} {pos apos : Pos} {a b c e o : Expr} {es : List Expr} {m mo : SemE} {ms : SemA}
theorem rdSA_bind {U : WX} {D : Ends} {σ : L2.St} {H : Hp} {k : List W → Env' → AH → OutS} {R : List V → Hp → Prop} (h : rdS G U (fun ρ h => (ms ρ h).st fun x h1 => k x ρ h1) D σ H)
    (hk : ∀ (ι1 : Io) (ρ : Env') (x : List W) (h1 : AH) (v : List V) (H1 : Hp), RlH G ι1 h1 H1 → RlE G ι1 ρ σ H1 → RepWs G ι1 H1 x v → stP G ι1 H1 U D (k x ρ h1) → R v H1) : rdA G U ms σ H R := by
  obtain ⟨ι, ρ, h0, rh, re, q⟩ := h
  have q := st_to (σ := σ) q
  exact ⟨ι, ρ, h0, rh, re, Out.to_mono q (fun x h1 z ι1 v H1 e1 r1 v1 => hk ι1 ρ x h1 v H1 r1 (re.mono e1) v1 (z.up e1)) fun _ _ _ z => z⟩
/-! ### a, b = x, y -/
def sPar (i j : Nat) (ms : SemA) : SemS := fun ρ h => (ms ρ h).st fun xs h1 => match xs with
  | [x, y] => .nx ((ρ.set i (some x)).set j (some y)) h1
  | _ => .bad
theorem js_par {i j : Nat} {x y : Str} {px py pt : Pos} {kt k2 : Nat} {pt2 : Pos} (hc : X.calm = true) (hN : X.N.Nodup) (hi : X.N[i]? = some x) (hj : X.N[j]? = some y) (hij : i ≠ j) (hx : X.env.scope.names.lookup x = some .local) (hy : X.env.scope.names.lookup y = some .local) (ha : JA G X ms [a, b])
    (hw : swappedStores [.Tuple [.Name x px, .Name y py] kt pt] (.Tuple [a, b] k2 pt2) X.env = pure (some [x, y])) (hs : swapsWithSole [.Tuple [.Name x px, .Name y py] kt pt] (.Tuple [a, b] k2 pt2) pos.line X.env = pure false := by rfl) :
    JS G X (sPar i j ms) (.Assign [.Tuple [.Name x px, .Name y py] kt pt] (.Tuple [a, b] k2 pt2) pos) := fun U t => (ps_par hc hN hi hj hij hx hy (ha U t) hw hs).imp fun D σ H h => by
  refine rdSA_bind (k := fun xs ρ h1 => match xs with
    | [x, y] => .nx ((ρ.set i (some x)).set j (some y)) h1
    | _ => .bad) h fun ι1 ρ xs h1 vs H1 r1 re1 v1 q => ?_
  split at q
  · obtain ⟨v, v', rfl, p1, p2⟩ := ws2 v1
    exact ⟨v, v', rfl, q ι1 _ H1 .refl r1 ((re1.set p1).set p2)⟩
  · exact q.elim
/-! ### target = value, in general -/
def sAsg (g : SemG) (m : SemE) : SemS := fun ρ h => (m ρ h).st fun x h1 => match g x ρ with
  | some ρ' => .nx ρ' h1
  | none => .bad
theorem js_asg {g : SemG} {sl : List Nat} {tg : Expr} (ha : JE G X m e) (hg : JG G X g sl tg) (hs : swapsWithSole [tg] e pos.line X.env = pure false := by rfl) (hw : swappedStores [tg] e X.env = pure none := by rfl)
    (h1 : (assignEach [tg] X.env).map (·.2) = [assign tg X.env] := by rfl) : JS G X (sAsg g m) (.Assign [tg] e pos) := fun U t => by
  obtain ⟨r, pg, kg⟩ := hg
  refine (ps_asg (ha U t) pg hs hw h1).imp fun D σ H h => ?_
  refine rdS_bind (k := fun x ρ h1 => match g x ρ with
    | some ρ' => .nx ρ' h1
    | none => .bad) h fun ι1 ρ x h1 v H1 r1 re1 v1 q => ?_
  split at q
  · rename_i ρ' eg
    exact kg ι1 H1 x v ρ ρ' σ _ re1 v1 eg fun σ' re' _ => q ι1 σ' H1 .refl r1 re'
  · exact q.elim
/-! ### methods of lists -/
def lstAt (h : AH) (x : W) : Option (Nat × List W) := match x with
  | .ref i => match h.f i with
    | some (.lst ws) => some (i, ws)
    | _ => none
  | _ => none
theorem lstAt_of {h : AH} {x : W} {i : Nat} {ws : List W} (e : lstAt h x = some (i, ws)) : x = .ref i ∧ h.f i = some (.lst ws) := by
  cases x with
  | ref j =>
    simp only [lstAt] at e
    split at e
    · rename_i hj
      cases e
      exact ⟨rfl, hj⟩
    · cases e
  | d _ => cases e
  | exc _ _ => cases e
  | clo _ => cases e
  | clos _ => cases e
abbrev OpM := Nat → List W → List W → AH → Option (W × AH)
/-- l.m(..), l a list of the heap -/
def eMt (f : OpM) (mo : SemE) (ms : SemA) : SemE := fun ρ h => (mo ρ h).bind fun x h1 => match lstAt h1 x with
  | some _ => (ms ρ h1).bind fun xs h2 => match lstAt h2 x with
    | some (i, ws) => match f i ws xs h2 with
      | some (z, h3) => .ok z h3
      | none => .bad
    | none => .bad
  | none => .bad
def MtS (G : Gd) (X : Cx) (id : String) (f : OpM) : Prop := ∃ r : V → List V → Hp → VK → Prop, MtR X id r ∧ ∀ (ι : Io) (h : AH) (H : Hp) (i : Nat) (p : Addr) (ws : List W) (us : List V) (xs : List W) (vs : List V) (z : W) (h' : AH) (Q : VK), RlH G ι h H → ι i = some p → h.f i = some (.lst ws) → H p = some (.lst us) → RepWs G.bare ι H ws us → RepWs G ι H xs vs →
  f i ws xs h = some (z, h') → okP G ι H Q z h' → r (.ref p) vs H Q
theorem mt_red {U : WX} {f : OpM} {r : V → List V → Hp → VK → Prop} {σ : L2.St} {H : Hp} {Q : VK} {t : TA}
    (hr : ∀ (ι : Io) (h : AH) (H : Hp) (i : Nat) (p : Addr) (ws : List W) (us : List V) (xs : List W) (vs : List V) (z : W) (h' : AH) (Q : VK), RlH G ι h H → ι i = some p → h.f i = some (.lst ws) → H p = some (.lst us) → RepWs G.bare ι H ws us → RepWs G ι H xs vs → f i ws xs h = some (z, h') → okP G ι H Q z h' → r (.ref p) vs H Q)
    (h : rdE G U (eMt f mo ms) σ H Q) (ht : ∀ (H1 : Hp) (R : List V → Hp → Prop), rdA G U ms σ H1 R → t σ H1 R) : tBM X.K "list" r (rdE G U mo) t σ H Q := by
  refine rd_bind (k := fun x ρ h1 => match lstAt h1 x with
    | some _ => (ms ρ h1).bind fun xs h2 => match lstAt h2 x with
      | some (i, ws) => match f i ws xs h2 with
        | some (z, h3) => .ok z h3
        | none => .bad
      | none => .bad
    | none => .bad) h fun ι ι1 ρ x h1 v H1 e1 r1 re1 v1 m1 => ?_
  split at m1
  case h_2 => exact m1.elim
  rename_i q hq
  obtain ⟨i, ws⟩ := q
  obtain ⟨rfl, hi⟩ := lstAt_of hq
  obtain ⟨p, hp, rfl⟩ := v1
  obtain ⟨p', hp', us, hu, _⟩ := r1.ob i _ hi
  rw [hp] at hp'
  cases hp'
  refine ⟨.inl ⟨rfl, us, .inl (.inl hu)⟩, ht H1 _ ?_⟩
  rw [to_bind] at m1
  refine ⟨ι1, ρ, h1, r1, re1, Out.to_mono m1 (fun xs h2 z ι2 vs H2 e2 r2 v2 => ?_) fun _ _ _ z => z⟩
  split at z
  case h_2 => exact z.elim
  rename_i j ws2 hq2
  obtain ⟨e3, hi2⟩ := lstAt_of hq2
  cases e3
  split at z
  case h_2 => exact z.elim
  rename_i w h3 ef
  have hp2 := e2.up i p hp
  obtain ⟨p', hp', us2, hu2, rw2⟩ := r2.ob i _ hi2
  rw [hp2] at hp'
  cases hp'
  exact hr ι2 h2 H2 i p ws2 us2 xs vs w h3 Q r2 hp2 hi2 hu2 rw2 v2 ef (okP.up e2 z)
theorem je_mt {id : String} {name : Str} {f : OpM} (slot : Slot "list" name id) (hty : typeOf (.builtin id) = pure (.type "method_descriptor")) (hm : MtS G X id f) (ho : JE G X mo o) (ha : JA G X ms (e :: es))
    (hbase : attributeBase o name X.env (eval o X.env) = eval o X.env := by rfl)
    (hfew : ((backTo pos (starEach (e :: es) X.env)).all (fun x => !x.1) && (backToKw pos (keywordEach [] X.env)).all (fun x => x.1.isSome)
      && decide ((e :: es).length + ([] : List Keyword).length + (if ([] : List Keyword).isEmpty then 0 else 1) < 30)) = true := by rfl)
    (hline : (apos.endLine == pos.line) = true := by rfl) (hs : starEach (e :: es) X.env = (false, eval e X.env) :: starEach es X.env := by rfl) (hplain : (backTo pos (starEach es X.env)).any (·.1) = false := by rfl) :
    JE G X (eMt f mo ms) (.Call (.Attribute o name apos) (e :: es) [] pos) := fun U t => by
  obtain ⟨r, h1, h2⟩ := hm
  exact (pe_bm PySem.F.plainAttrs_list slot hty h1 (ho U t) (ha U t) hbase hfew hline hs hplain).imp fun σ H Q h => mt_red h2 h fun _ _ z => z
theorem je_mt0 {id : String} {name : Str} {f : OpM} (slot : Slot "list" name id) (hty : typeOf (.builtin id) = pure (.type "method_descriptor")) (hm : MtS G X id f) (ho : JE G X mo o)
    (hbase : attributeBase o name X.env (eval o X.env) = eval o X.env := by rfl) (hline : (apos.endLine == pos.line) = true := by rfl) : JE G X (eMt f mo aNil) (.Call (.Attribute o name apos) [] [] pos) := fun U t => by
  obtain ⟨r, h1, h2⟩ := hm
  exact (pe_bm0 PySem.F.plainAttrs_list slot hty h1 (ho U t) hbase hline).imp fun σ H Q h => mt_red (t := tNil) h2 h fun H1 R ⟨ι, ρ, h0, rh, re, q⟩ => q ι [] H1 .refl rh .nil
/-- the list at i is rewritten -/
theorem lst_write {ι : Io} {h : AH} {H : Hp} {i : Nat} {p : Addr} {us us' : List V} {ws' : List W} {z : W} {v : V} {Q : VK} (r : RlH G ι h H) (hp : ι i = some p) (hu : H p = some (.lst us)) (rw' : RepWs G.bare ι H ws' us') (rv : RepW G ι H z v) (k : okP G ι H Q z (h.set i (.lst ws'))) : Q v (upd H p (.lst us')) := by
  have lo : Loose H p := loose_lst hu
  have x : Ext ι H ι (upd H p (.lst us')) := .write hp lo
  exact k ι v _ x (r.write hp lo ⟨us', upd_same, rw'.mono x⟩) (rv.mono x)
theorem RepWs.app {ι : Io} {H : Hp} {ws ws' : List W} {us us' : List V} (h : RepWs G ι H ws us) (h' : RepWs G ι H ws' us') : RepWs G ι H (ws ++ ws') (us ++ us') := by
  induction h with
  | nil => exact h'
  | cons r _ ih => exact .cons r ih
theorem RepWs.dropLast {ι : Io} {H : Hp} {ws : List W} {us : List V} (h : RepWs G ι H ws us) : RepWs G ι H ws.dropLast us.dropLast := by
  induction h with
  | nil => exact .nil
  | cons r t ih =>
    cases t with
    | nil => exact .nil
    | cons r2 t2 => exact .cons r ih
theorem RepWs.erase {ι : Io} {H : Hp} {ws : List W} {us : List V} (h : RepWs G ι H ws us) (k : Nat) : RepWs G ι H (ws.eraseIdx k) (us.eraseIdx k) := by
  induction h generalizing k with
  | nil => exact .nil
  | cons r t ih =>
    cases k with
    | zero => exact t
    | succ k => exact .cons r (ih k)
def appendM : OpM := fun i ws xs h => match xs with
  | [y] => if y.flat = true ∧ ws.length < 1000000 then some (.d .none, h.set i (.lst (ws ++ [y]))) else none
  | _ => none
theorem ms_append : MtS G X "list.append" appendM := ⟨_, mt_append, fun ι h H i p ws us xs vs z h' Q r hp hi hu rw' rv e k => by
  unfold appendM at e
  split at e
  · rename_i y
    split at e
    · rename_i ok
      cases e
      obtain ⟨v, rfl, q⟩ := ws1 rv
      exact ⟨p, us, v, rfl, rfl, hu, by rw [← rw'.length, sizeLine_eq]; omega, lst_write r hp hu (rw'.app (.cons (q.down ok.1) .nil)) (show RepW G ι H (.d .none) .non from .non) k⟩
    · cases e
  · cases e⟩
def popM : OpM := fun i ws xs h => match xs with
  | [] => (ws[ws.length - 1]?).map fun y => (y, h.set i (.lst ws.dropLast))
  | _ => none
theorem ms_pop : MtS G X "list.pop" popM := ⟨_, mt_pop, fun ι h H i p ws us xs vs z h' Q r hp hi hu rw' rv e k => by
  unfold popM at e
  split at e
  · cases ey : ws[ws.length - 1]? with
    | none => rw [ey] at e; cases e
    | some y =>
      rw [ey] at e
      cases e
      cases rv
      obtain ⟨v, e1, e2⟩ := Paired.get1 rw' ey
      exact ⟨p, us, v, rfl, rfl, hu, by rw [← rw'.length]; exact e1, lst_write r hp hu (RepWs.dropLast rw') e2.up k⟩
  · cases e⟩
def popAtM : OpM := fun i ws xs h => match xs with
  | [.d (.int 0)] => (ws[0]?).map fun y => (y, h.set i (.lst (ws.eraseIdx 0)))
  | _ => none
theorem ms_popAt : MtS G X "list.pop" popAtM := ⟨_, mt_popAt, fun ι h H i p ws us xs vs z h' Q r hp hi hu rw' rv e k => by
  unfold popAtM at e
  split at e
  · cases ey : ws[0]? with
    | none => rw [ey] at e; cases e
    | some y =>
      rw [ey] at e
      cases e
      obtain ⟨v0, rfl, q⟩ := ws1 rv
      cases q
      obtain ⟨v, e1, e2⟩ := Paired.get1 rw' ey
      have hl : 0 < us.length := (List.getElem?_eq_some_iff.mp e1).1
      exact ⟨p, us, 0, 0, v, rfl, rfl, hu, by decide, by decide, by unfold seqIndex?; simp [hl], e1, lst_write r hp hu (RepWs.erase rw' 0) e2.up k⟩
  · cases e⟩
/-! l.extend(..) -/
theorem ext_tup (l : Addr) (items : Array Value) (n : Nat) (b : Addr) (dd : Option Addr) (sl : Array (Option Value)) (items2 : Array Value) (n2 : Nat) (hs0 : ¬(!items.isEmpty && Builtin.List.listTooLong (items.size + items2.size)) = true) (hs1 : items.size ≤ sizeLine) (hs2 : items.size + items2.size ≤ sizeLine + 1) :
    Meets (Builtin.«list.extend» ⟨[.ref l, .ref b], []⟩) (fun _ R s => s.heap.get? l = some { cls := .type "list", dict := none, data := .seq items n, slots := #[] } ∧ s.heap.get? b = some { cls := .type "tuple", dict := dd, data := .seq items2 n2, slots := sl } ∧
      R (.ok (.ret Value.none)) { s with heap := s.heap.update l (Obj.mapSeq fun x => x ++ items2), toks := s.toks }) :=
  .of_wp fun prog w A R s h => by
    obtain ⟨hp, g, d, tk, os⟩ := s
    obtain ⟨hl, hb, h⟩ := h
    have f1 := AutoSeq1.idx_int
    have f2 := AutoSeq1.sub_tuple_tuple
    have f3 := AutoSeq1.sub_list_list
    have f4 := AutoSeq1.sub_tuple_list
    have f5 := AutoSeq1.sub_list_tuple
    have hz' : (items ++ items2).size ≤ sizeLine + 1 := by
      rw [Array.size_append]
      exact hs2
    wp_walk using (PySem.wpAny_updateSeq hl rfl (hz := hs1) (_hz' := hz')), AutoSeq1.wpAny_loadPart' hl, AutoSeq1.wpAny_loadPart' hb
    exact ⟨_, rfl, h⟩
def rExt2 (K : PySem.W.Frag) : V → List V → Hp → VK → Prop := fun x vs H Q => ∃ l b xs zs, x = .ref l ∧ vs = [.ref b] ∧ H l = some (.lst xs) ∧ (Sq2 H b zs ∨ SqT K H b zs) ∧ xs.length + zs.length ≤ sizeLine ∧ Q .non (upd H l (.lst (xs ++ zs)))
theorem mt_ext2 : MtR X "list.extend" (rExt2 X.K) := by
  intro pins s σ H x vs v us Q I rx rv h
  obtain ⟨l, b, xs, zs, rfl, rfl, hH, hB, hz, q⟩ := h
  cases rx
  obtain ⟨u, rfl, ru⟩ := rv.one
  cases ru
  obtain ⟨z, its, n, r, hl, e⟩ := I.lstM hH
  rcases hB with hB | hB
  · obtain ⟨z2, its2, n2, r2, e2⟩ := hB.obj I
    have hl2 := r2.length
    have hsz : its.toArray.size + its2.toArray.size ≤ sizeLine := by
      rw [List.size_toArray, List.size_toArray]
      omega
    have hlong : ¬ (!its.toArray.isEmpty && Builtin.List.listTooLong (its.toArray.size + its2.toArray.size)) = true := by
      rw [notLongL hsz, Bool.and_false]
      exact Bool.false_ne_true
    refine call_meets F.slot_list_extend ⟨_, e, rfl⟩ F.entry_list_extend (F.args_list_extend_2 _ _) (AutoSeq1.list_extend_list_list_0 l its.toArray n b its2.toArray n2 hlong (by rw [List.size_toArray]; omega) (by omega)) ⟨e, e2, ?_⟩
    exact ⟨.non, _, I.lset (its' := its ++ its2) hH e (by simp) (r.append r2) (by rw [List.length_append]; omega), rfl, q⟩
  · obtain ⟨its2, r2, pl, z2⟩ := I.tuple hB
    have hl2 := r2.length
    obtain ⟨⟨oc, od, dt, sl⟩, h1, h2, n2, h3⟩ := pl
    simp only at h2 h3
    subst h2 h3
    have hsz : its.toArray.size + its2.toArray.size ≤ sizeLine := by
      rw [List.size_toArray, List.size_toArray]
      omega
    have hlong : ¬ (!its.toArray.isEmpty && Builtin.List.listTooLong (its.toArray.size + its2.toArray.size)) = true := by
      rw [notLongL hsz, Bool.and_false]
      exact Bool.false_ne_true
    refine call_meets F.slot_list_extend ⟨_, e, rfl⟩ F.entry_list_extend (F.args_list_extend_2 _ _) (ext_tup l its.toArray n b od sl its2.toArray n2 hlong (by rw [List.size_toArray]; omega) (by omega)) ⟨e, h1, ?_⟩
    exact ⟨.non, _, I.lset (its' := its ++ its2) hH e (by simp) (r.append r2) (by rw [List.length_append]; omega), rfl, q⟩
def extendM : OpM := fun i ws xs h => match xs with
  | [y] => match toD h y with
    | some (.list ds) => if ws.length + ds.length ≤ 1000000 then some (.d .none, h.set i (.lst (ws ++ ds.map .d))) else none
    | some (.tuple ds) => if ws.length + ds.length ≤ 1000000 then some (.d .none, h.set i (.lst (ws ++ ds.map .d))) else none
    | _ => none
  | _ => none
theorem ms_extend (hK : X.K = G.K) : MtS G X "list.extend" extendM := ⟨_, mt_ext2, fun ι h H i p ws us xs vs z h' Q r hp hi hu rw' rv e k => by
  unfold extendM at e
  split at e
  · rename_i y
    obtain ⟨v, rfl, q⟩ := ws1 rv
    split at e
    · rename_i ds hd
      split at e
      · rename_i hl
        cases e
        obtain ⟨b, zs, rfl, h1, h2⟩ := toD_list r q hd
        exact ⟨p, b, us, zs, rfl, rfl, hu, .inl h1, million (by rw [← rw'.length, h2.length]; exact hl), lst_write r hp hu (rw'.app (rep_map h2)) (show RepW G ι H (.d .none) .non from .non) k⟩
      · cases e
    · rename_i ds hd
      split at e
      · rename_i hl
        cases e
        have q2 := toD_data q hd fun _ z => by cases z
        cases q2 with
        | @tup b zs _ h1 h2 =>
          exact ⟨p, b, us, zs, rfl, rfl, hu, .inr (by rw [hK]; exact h1), million (by rw [← rw'.length, h2.length]; exact hl), lst_write r hp hu (rw'.app (rep_map h2)) (show RepW G ι H (.d .none) .non from .non) k⟩
      · cases e
    · cases e
  · cases e⟩
end
end Q

set_option Elab.async false
set_option maxRecDepth 100000
set_option linter.all false
set_option autoImplicit false
/-! QR: displays of dicts, comprehensions into lists of the heap, name = [..], l.index(..), list(..) into the heap. -/
namespace Q
open PySem PySem.Spec PyProof.Rows L2 LamX

section
variable {G : Gd} {X : Cx} {pos apos : Pos} {a b c e o : Expr} {es : List Expr} {m mo : SemE} {ms : SemA}
/-! ### {'k': v, ..} -/
theorem pairs_of {P : Program} {w : World} {G : Gd} {ι : Io} {H : Hp} (hw : w = G.w) : ∀ {ks : List Str} {ws : List W} {vs : List V} {us : List (Value × Value)} {rs : List (Key × Value)} {es : List DictEntry}, RepWs G.bare ι H ws vs → VV ((ks.map V.str).zip vs) us → Carries (mixKind P w) us rs → Pairs (mixKind P w) es rs → (∀ e ∈ es, ∃ k, (mixKind P w).is k e.key = true ∧ e.hash = (mixKind P w).hash k) → vs.length = ks.length →
    Paired (RepKV G ι H) ((ks.zip ws).map fun p => (.str p.1, p.2)) es
  | [], _, _, us, rs, es, r, vv, c, p, hk, l => by
    cases vv
    cases rs with
    | nil =>
      cases p
      exact .nil
    | cons q rs => exact c.elim
  | k :: ks, ws, vs, us, rs, es, r, vv, c, p, hk, l => by
    cases r with
    | nil => simp at l
    | @cons w0 v0 ws vs r1 r2 =>
      cases vv with
      | @cons _ u0 _ us hu ht =>
        obtain ⟨hu1, hu2⟩ := hu
        obtain ⟨u1, u2⟩ := u0
        dsimp only at hu1 hu2
        cases rs with
        | nil => exact c.elim
        | cons q rs =>
          obtain ⟨q1, q2⟩ := q
          obtain ⟨c1, c2, c3⟩ := c
          cases p with
          | @cons e0 _ es _ p1 p2 p3 =>
            refine .cons ?_ (pairs_of hw r2 ht c3 p3 (fun e he => hk e (List.mem_cons_of_mem _ he)) (by simpa using l))
            obtain ⟨t, rfl⟩ := hu1
            obtain ⟨k2, h1, h2⟩ := hk e0 List.mem_cons_self
            have c1 : keyIs q1 (.str k t) = true := c1
            have p1 : keyIs q1 e0.key = true := p1
            rcases keyIs_shape c1 with ⟨i, t', rfl, e⟩ | ⟨x, t', rfl, e⟩
            · cases e
            · cases e
              rcases keyIs_shape p1 with ⟨i, t2, e, _⟩ | ⟨x2, t2, e, ek⟩
              · cases e
              · cases e
                have h1 : keyIs k2 e0.key = true := h1
                rw [ek] at h1
                rcases keyIs_shape h1 with ⟨i, t3, rfl, e⟩ | ⟨x3, t3, rfl, e⟩
                · cases e
                · cases e
                  exact ⟨.text k, .str k, v0, rfl, Nat.zero_le _, by rw [h2, ← hw]; rfl, .str k, ⟨t2, ek⟩, r1, by rw [p2, ← c2]; exact hu2⟩
theorem carries_strs {P : Program} {w : World} : ∀ {ks : List Str} {vs : List V} {us : List (Value × Value)}, VV ((ks.map V.str).zip vs) us → vs.length = ks.length → ∃ rs, Carries (mixKind P w) us rs ∧ rs.map (·.1) = ks.map Sum.inr
  | [], vs, us, vv, l => by
    cases vv
    exact ⟨[], True.intro, rfl⟩
  | k :: ks, [], us, vv, l => by simp at l
  | k :: ks, v :: vs, us, vv, l => by
    cases vv with
    | @cons _ u0 _ us hu ht =>
      obtain ⟨u1, u2⟩ := u0
      obtain ⟨rs, c, e⟩ := carries_strs (P := P) (w := w) ht (by simpa using l)
      obtain ⟨t, ek⟩ := hu.1
      dsimp only at ek
      subst ek
      exact ⟨(.inr k, u2) :: rs, ⟨keyIs_str k t, rfl, c⟩, by simp [e]⟩
theorem je_disp {ks : List Str} {keys : List (Option Expr)} {values : List Expr} (hw : X.w = G.w) (hj : JP G X ks ms keys values) (hk : ks.Nodup) (h0 : ks ≠ []) (h15 : ks.length ≤ 15) : JE G X (eDisp ks ms) (.Dict keys values pos) := fun U t => by
  obtain ⟨l1, l2, l3, hj⟩ := hj
  obtain ⟨trs, p1, p2⟩ := hj U pos t
  refine ⟨fun pins s σ H Q I h => ?_⟩
  have hn := I.hok.fresh (Nat.le_refl s.heap.objs.size)
  have I1 := I.laid (a := s.heap.objs.size) (o := .dK []) (h' := s.heap.push { cls := .type "dict", data := .dict #[] }) (t' := s.toks) (fun _ _ q => Heap.get?_push_of_some _ q) (Nat.le_refl _) (dk_empty s.heap I.big)
  obtain ⟨ι, ρ, h0', rh, re, q⟩ := h
  unfold eDisp at q
  rw [to_bind] at q
  have x0 : Ext ι H ι (upd H s.heap.objs.size (.dK [])) := .fresh hn
  have h' : rdA G U ms σ (upd H s.heap.objs.size (.dK [])) fun vs H2 => ∃ (ι2 : Io) (ws : List W) (h2 : AH), Ext ι (upd H s.heap.objs.size (.dK [])) ι2 H2 ∧ RlH G ι2 h2 H2 ∧ RepWs G ι2 H2 ws vs ∧ (if ws.all W.flat = true ∧ ws.length = ks.length then Out.ok (W.ref h2.n) (h2.new (.dct ((ks.zip ws).map fun p => (.str p.1, p.2)))) else .bad).to (okP G ι H Q) (erP G ι H (xk U σ)) :=
    ⟨ι, ρ, h0', rh.fresh hn, re.mono x0, Out.to_mono q (fun ws h2 z ι2 vs H2 e2 r2 v2 => ⟨ι2, ws, h2, e2, r2, v2, z⟩) fun _ _ _ z => z.up x0⟩
  refine wpAny_Dict_walk (knd := mixKind X.prog X.w) l3 (l1.trans l2.symm) (fun z => h0 (by rw [z] at l1; exact List.length_eq_zero_iff.mp l1.symm)) (by rw [l1]; exact h15) (thn (p1.run pins _ σ _ _ I1 (p2 σ _ (fun ps H2 => ∃ vs, ps = (ks.map V.str).zip vs ∧ ∃ (ι2 : Io) (ws : List W) (h2 : AH), Ext ι (upd H s.heap.objs.size (.dK [])) ι2 H2 ∧ RlH G ι2 h2 H2 ∧ RepWs G ι2 H2 ws vs ∧ (if ws.all W.flat = true ∧ ws.length = ks.length then Out.ok (W.ref h2.n) (h2.new (.dct ((ks.zip ws).map fun p => (.str p.1, p.2)))) else .bad).to (okP G ι H Q) (erP G ι H (xk U σ)))
    (by obtain ⟨ι0, ρ0, h00, r0, re0, q0⟩ := h'; exact ⟨ι0, ρ0, h00, r0, re0, Out.to_mono q0 (fun ws h2 z ι2 vs H2 e2 r2 v2 => ⟨vs, rfl, z ι2 vs H2 e2 r2 v2⟩) fun _ _ _ z => z⟩))) fun us s2 hx => ?_)
  obtain ⟨ps, H2, I2, rel, vs, rfl, ι2, ws, h2, e2, r2, v2, z⟩ := hx
  split at z
  case isFalse => exact z.elim
  rename_i ok
  have nj : ∀ j, ι j ≠ some s.heap.objs.size := rh.nj hn
  have hD : H2 s.heap.objs.size = some (.dK []) := e2.fr _ _ upd_same nj (fun ps z => by cases z)
  have nj2 : ∀ j, ι2 j ≠ some s.heap.objs.size := fun j z => by
    rcases e2.nw j _ z with q | q
    · exact nj j q
    · exact q ⟨_, upd_same, fun ps z => by cases z⟩
  have lv : vs.length = ks.length := by rw [← v2.length]; exact ok.2
  obtain ⟨rs, cr, ek⟩ := carries_strs (P := X.prog) (w := X.w) rel lv
  obtain ⟨zz, hd, vs0, r0, dd⟩ := dk_of I2.hok hD
  cases r0
  refine ⟨rs, cr, dd, fun h' dd' hs => ?_⟩
  have nd : ((([] : List (Key × Value)) ++ rs).map (·.1)).Nodup := by
    rw [List.nil_append, ek]
    exact List.Pairwise.map _ (fun a b hab z => hab (Sum.inr.inj z)) hk
  rw [merged_nodup rs [] nd, List.nil_append] at dd'
  obtain ⟨ob, es, ep, g1, g2, g3, g4, g5, g6⟩ := dd'
  have lo : Loose H2 s.heap.objs.size := ⟨fun _ z => (by rw [hD] at z; cases z), fun _ _ z => (by rw [hD] at z; cases z), fun _ z => (by rw [hD] at z; cases z), fun _ z => (by rw [hD] at z; unfold CodeO at z; cases z)⟩
  have nw : ∀ ps, DX s.heap.objs.size es.toList ≠ .tbl ps := fun ps z => by unfold DX at z; cases z
  have x2 : Ext ι H (Io.new ι2 h2.n s.heap.objs.size) (upd H2 s.heap.objs.size (DX s.heap.objs.size es.toList)) := (x0.trans e2).into r2.lt (Trk.no hn) lo nw
  have y2 : Ex0 ι2 H2 (Io.new ι2 h2.n s.heap.objs.size) (upd H2 s.heap.objs.size (DX s.heap.objs.size es.toList)) := ⟨fun i a hi => by
    have := r2.lt i a hi
    unfold Io.new
    rw [if_neg (by omega)]
    exact hi, Stb.write lo⟩
  have rp : RepO G (Io.new ι2 h2.n s.heap.objs.size) (upd H2 s.heap.objs.size (DX s.heap.objs.size es.toList)) s.heap.objs.size (.dct ((ks.zip ws).map fun p => (.str p.1, p.2))) := by
    refine ⟨hd, ?_, ?_, es.toList, upd_same, pairs_of hw ((v2.down ok.1).mono0 y2) rel cr g5 (fun e he => g4 e (by simpa using he)) lv⟩
    · rw [List.length_map, List.length_zip, ok.2, Nat.min_self, sizeLine_eq]
      omega
    · rw [List.map_map]
      have : ((fun p : PyData × W => keyD p.1) ∘ fun p : Str × W => (PyData.str p.1, p.2)) = (fun k => some (NestedKey.text k)) ∘ Prod.fst := rfl
      rw [this, ← List.map_map, List.map_fst_zip (by omega)]
      exact List.Pairwise.map _ (fun a b hab z => hab (by injection z with z; injection z)) hk
  have rr := (r2.into nj2 lo nw rp).2
  have oo : ObjOk X.prog X.w (upd H2 s.heap.objs.size (DX s.heap.objs.size es.toList)) h' s.heap.objs.size (DX s.heap.objs.size es.toList) := by
    refine ⟨⟨ob, ep, g1, g2, by rw [g3]⟩, ⟨ob, g1⟩, ?_⟩
    rintro h1 h2 ⟨o1, ep1, f1, f2, f3⟩ st
    exact ⟨o1, ep1, st _ f1, f2, f3⟩
  exact ⟨.ref s.heap.objs.size, _, d_write I2 (by rw [hD]; exact True.intro) hs ⟨ob, g1⟩ oo, rfl, z _ _ _ x2 rr ⟨_, Io.new_same, rfl⟩⟩
end
end Q

set_option Elab.async false
set_option maxRecDepth 100000
set_option linter.all false
set_option autoImplicit false
/-! QS: comprehensions into the heap, name = [..], l.index(..), list(..) into the heap. -/
namespace Q
open PySem PySem.Spec PyProof.Rows L2 LamX

section
variable {G : Gd} {X : Cx} {pos apos : Pos} {a b c e o : Expr} {es : List Expr} {m mo : SemE} {ms : SemA}
theorem tLc_of {U : WX} {mi : SemI} {g : SemG} {r : TG} {sl own : List Nat} {mt : SemT} {me : SemE} {σ : L2.St} {H : Hp} {Q : VK} {ι : Io} {ρ : Env'} {h0 : AH} (rh : RlH G ι h0 H) (re : RlE G ι ρ σ H) (hsl : ∀ i ∈ sl, i ∈ own)
    (kg : ∀ (ι : Io) (H : Hp) (x : W) (v : V) (ρ ρ' : Env') (σ : L2.St) (Q : L2.St → Hp → Prop), RlE G ι ρ σ H → RepW G ι H x v → g x ρ = some ρ' → (∀ σ', RlE G ι ρ' σ' H → Sets sl σ σ' → Q σ' H) → r v σ H Q)
    (q : (mi ρ h0).to (fun p h1 => ∃ ys h2, compL p.2 g mt me (wipR ρ own) p.1 h1 = .ok ys h2 ∧ ∀ (ι' : Io) (H' : Hp) (D : Addr) (vs : List V), Ext ι H ι' H' → RlH G ι' h2 H' → H' D = some (.lst vs) → RepWs G ι' H' ys vs → (∀ j, ι' j ≠ some D) → ¬ Trk H D → Q (.ref D) H') (erP G ι H (xk U σ))) :
    tLc (rdI G U mi) r (rdT G U0 mt) (rdE G U0 me) own σ H Q := by
  refine ⟨ι, ρ, h0, rh, re, Out.to_mono q (fun p h1 z ι1 H1 J e1 r1 jok hl D nD => ?_) fun _ _ _ z => z⟩
  obtain ⟨ws, chk⟩ := p
  obtain ⟨ys, h2, ec, z⟩ := z
  exact comp_core (U := U0) jok hl r1 (re.mono e1) hsl nD kg (fun _ _ _ _ z => z) ec fun ι' H' vs e2 r2 hD rv nj => z ι' H' D vs (e1.trans e2) r2 hD rv nj (e1.none_back nD)
/-- what a comprehension's list comes to -/
noncomputable def compO (own : List Nat) (mi : SemI) (g : SemG) (mt : SemT) (me : SemE) : SemA := fun ρ h => (mi ρ h).bind fun p h1 => match compL p.2 g mt me (wipR ρ own) p.1 h1 with
  | .ok ys h2 => .ok ys h2
  | _ => .bad
theorem compO_to {own : List Nat} {mi : SemI} {g : SemG} {mt : SemT} {me : SemE} {ρ : Env'} {h : AH} {P : List W → AH → Prop} {R} (q : (compO own mi g mt me ρ h).to P R) : (mi ρ h).to (fun p h1 => ∃ ys h2, compL p.2 g mt me (wipR ρ own) p.1 h1 = .ok ys h2 ∧ P ys h2) R := by
  unfold compO at q
  rw [to_bind] at q
  refine Out.to_mono q (fun p h1 z => ?_) fun _ _ _ z => z
  split at z
  · rename_i ys h2 e
    exact ⟨ys, h2, e, z⟩
  · exact z.elim
noncomputable def eCompH (own : List Nat) (mi : SemI) (g : SemG) (mt : SemT) (me : SemE) : SemE := fun ρ h => (compO own mi g mt me ρ h).bind fun ys h2 => if ys.all W.flat = true then .ok (.ref h2.n) (h2.new (.lst ys)) else .bad
theorem upd_id {H : Hp} {a : Addr} {u : HO} (e : H a = some u) : upd H a u = H := by
  funext b
  by_cases z : b = a
  · rw [z, upd_same, e]
  · rw [upd_ne z]
/-- a list that the abstract heap doesn't tell of comes into it -/
theorem lst_into {ι ι' : Io} {H H' : Hp} {h2 : AH} {D : Addr} {ys : List W} {vs : List V} {Q : VK} (x : Ext ι H ι' H') (r : RlH G ι' h2 H') (hD : H' D = some (.lst vs)) (rv : RepWs G ι' H' ys vs) (nj : ∀ j, ι' j ≠ some D) (nt : ¬ Trk H D) (hf : ys.all W.flat = true) (k : okP G ι H Q (.ref h2.n) (h2.new (.lst ys))) : Q (.ref D) H' := by
  have e := upd_id hD
  have lo : Loose H' D := loose_lst hD
  have no : ∀ ps, HO.lst vs ≠ .tbl ps := fun ps z => by cases z
  have x2 : Ext ι H (Io.new ι' h2.n D) (upd H' D (.lst vs)) := x.into r.lt nt lo no
  have y2 : Ex0 ι' H' (Io.new ι' h2.n D) (upd H' D (.lst vs)) := ⟨fun i a hi => by
    have := r.lt i a hi
    unfold Io.new
    rw [if_neg (by omega)]
    exact hi, Stb.write lo⟩
  have rr := (r.into nj lo no (show RepO G (Io.new ι' h2.n D) (upd H' D (.lst vs)) D (.lst ys) from ⟨vs, upd_same, (rv.down hf).mono0 y2⟩)).2
  rw [e] at x2 rr
  exact k _ _ _ x2 rr ⟨_, Io.new_same, rfl⟩
theorem compH_red {U : WX} {mi : SemI} {g : SemG} {r : TG} {sl own : List Nat} {mt : SemT} {me : SemE} {σ : L2.St} {H : Hp} {Q : VK} (hsl : ∀ i ∈ sl, i ∈ own)
    (kg : ∀ (ι : Io) (H : Hp) (x : W) (v : V) (ρ ρ' : Env') (σ : L2.St) (Q : L2.St → Hp → Prop), RlE G ι ρ σ H → RepW G ι H x v → g x ρ = some ρ' → (∀ σ', RlE G ι ρ' σ' H → Sets sl σ σ' → Q σ' H) → r v σ H Q)
    (h : rdE G U (eCompH own mi g mt me) σ H Q) : tLc (rdI G U mi) r (rdT G U0 mt) (rdE G U0 me) own σ H Q := by
  obtain ⟨ι, ρ, h0, rh, re, q⟩ := h
  unfold eCompH at q
  rw [to_bind] at q
  refine tLc_of rh re hsl kg (Out.to_mono (compO_to q) (fun p h1 ⟨ys, h2, e, z⟩ => ⟨ys, h2, e, fun ι' H' D vs x r2 hD rv nj nt => ?_⟩) fun _ _ _ z => z)
  split at z
  · rename_i hf
    exact lst_into x r2 hD rv nj nt hf z
  · exact z.elim
theorem je_compH {elt tg iter : Expr} {ifs : List Expr} {scope : Scope} {own : List (Str × Nat)} {mi : SemI} {g : SemG} {sl : List Nat} {mt : SemT} {me : SemE} (hc : X.calm = true) (hN : X.N.Nodup) (hi : JI G X mi tg iter) (ok : BlkOk X.N X.env.scope scope own) (hsl : ∀ i ∈ sl, i ∈ own.map (·.2))
    (hg : JGB G X scope g sl tg)
    (ht : ∀ (s : Shared) (H : Hp) (C : Addr) (cl : List (Str × Addr)) (fp : List Addr), JTs G (X.blk s H scope (compEnvC scope cl C X.env) fp) mt ifs)
    (he : ∀ (s : Shared) (H : Hp) (C : Addr) (cl : List (Str × Addr)) (fp : List Addr), JE G (X.blk s H scope (compEnvC scope cl C X.env) fp) me elt) (hs : ∀ x, foldedSetIterable iter X.env x = pure x := by intro _; rfl) :
    JE G X (eCompH (own.map (·.2)) mi g mt me) (.ListComp elt [⟨tg, iter, ifs, 0⟩] scope pos) := fun U t => by
  obtain ⟨r, pg, kg⟩ := hg
  exact (pe_lc hc hN (hi U t) ok pg (fun s H C cl fp => ht s H C cl fp U0 L2.takes0) (fun s H C cl fp => he s H C cl fp U0 L2.takes0) hs).imp fun σ H Q h => compH_red hsl kg h
/-! ### name = [..], on one line -/
theorem ps_frz {st : Stmt} {t : TS} (p : PS X st t) : PS X st (fun D σ H => t { D with nx := fun σ' H' => D.nx σ' H' ∨ ∃ a xs, H' a = some (.lst xs) ∧ ∀ o, D.nx σ' (upd H' a (frzO xs o)) } σ H) := ⟨fun pins s σ H D I h => thn (p.run pins s σ H _ I h) fun f s1 q => by
  cases f with
  | next =>
    obtain ⟨σ', H', I', q⟩ := q
    rcases q with q | ⟨a, xs, h1, q⟩
    · exact ⟨σ', H', I', q⟩
    · obtain ⟨o, J⟩ := I'.frz h1
      exact ⟨σ', _, J, q o⟩
  | ret v => exact q
  | brk => exact q
  | cont => exact q⟩
noncomputable def sSetLc (i : Nat) (own : List Nat) (mi : SemI) (g : SemG) (mt : SemT) (me : SemE) : SemS := fun ρ h => (compO own mi g mt me ρ h).st fun ys h2 => match allD ys with
  | some ds => .nx (ρ.set i (some (.d (.list ds)))) h2
  | none => .bad
noncomputable def sSetLcH (i : Nat) (own : List Nat) (mi : SemI) (g : SemG) (mt : SemT) (me : SemE) : SemS := fun ρ h => (compO own mi g mt me ρ h).st fun ys h2 => if ys.all W.flat = true then .nx (ρ.set i (some (.ref h2.n))) (h2.new (.lst ys)) else .bad
theorem js_setLc {i : Nat} {y : Str} {py : Pos} {elt tg iter : Expr} {ifs : List Expr} {scope : Scope} {own : List (Str × Nat)} {lpos : Pos} {mi : SemI} {g : SemG} {sl : List Nat} {mt : SemT} {me : SemE} (hc : X.calm = true) (hN : X.N.Nodup) (hy : X.N[i]? = some y) (hyl : X.env.scope.names.lookup y = some .local)
    (hsw : swapsWith (.ListComp elt [⟨tg, iter, ifs, 0⟩] scope lpos) (some (.Name y py)) pos.line X.env = pure true) (hi : JI G X mi tg iter) (ok : BlkOk X.N X.env.scope scope own) (hsl : ∀ i ∈ sl, i ∈ own.map (·.2))
    (hg : JGB G X scope g sl tg)
    (ht : ∀ (s : Shared) (H : Hp) (C : Addr) (cl : List (Str × Addr)) (fp : List Addr), JTs G (X.blk s H scope (compEnvC scope cl C X.env) fp) mt ifs)
    (he : ∀ (s : Shared) (H : Hp) (C : Addr) (cl : List (Str × Addr)) (fp : List Addr), JE G (X.blk s H scope (compEnvC scope cl C X.env) fp) me elt) (hs : ∀ x, foldedSetIterable iter X.env x = pure x := by intro _; rfl) :
    JS G X (sSetLc i (own.map (·.2)) mi g mt me) (.Assign [.Name y py] (.ListComp elt [⟨tg, iter, ifs, 0⟩] scope lpos) pos) := fun U t => by
  obtain ⟨r, pg, kg⟩ := hg
  refine (ps_frz (ps_setLc hc hN hy hyl hsw (hi U t) ok pg (fun s H C cl fp => ht s H C cl fp U0 L2.takes0) (fun s H C cl fp => he s H C cl fp U0 L2.takes0) hs)).imp fun D σ H h => ?_
  obtain ⟨ι, ρ, h0, rh, re, q⟩ := h
  have q := st_to (σ := σ) q
  refine tLc_of rh re hsl kg (Out.to_mono (compO_to q) (fun p h1 ⟨ys, h2, e, z⟩ => ⟨ys, h2, e, fun ι' H' D vs x r2 hD rv nj nt => .inr ⟨D, vs, hD, fun o => ?_⟩⟩) fun _ _ _ z => z)
  split at z
  · rename_i ds hd
    have rd := allD_rep hd rv
    have lo : Loose H' D := loose_lst hD
    have no : ∀ ps, frzO vs o ≠ .tbl ps := fun ps z => by unfold frzO at z; cases z
    have x2 : Ext ι H ι' (upd H' D (frzO vs o)) := x.after nt lo no
    exact z ι' _ _ x2 (r2.off nj lo) ((re.mono x2).set (show RepW G ι' _ (.d (.list ds)) (.ref D) from .lst upd_same (RepDs.mono (Stb.write lo) _ _ rd)))
  · exact z.elim
theorem js_setLcH {i : Nat} {y : Str} {py : Pos} {elt tg iter : Expr} {ifs : List Expr} {scope : Scope} {own : List (Str × Nat)} {lpos : Pos} {mi : SemI} {g : SemG} {sl : List Nat} {mt : SemT} {me : SemE} (hc : X.calm = true) (hN : X.N.Nodup) (hy : X.N[i]? = some y) (hyl : X.env.scope.names.lookup y = some .local)
    (hsw : swapsWith (.ListComp elt [⟨tg, iter, ifs, 0⟩] scope lpos) (some (.Name y py)) pos.line X.env = pure true) (hi : JI G X mi tg iter) (ok : BlkOk X.N X.env.scope scope own) (hsl : ∀ i ∈ sl, i ∈ own.map (·.2))
    (hg : JGB G X scope g sl tg)
    (ht : ∀ (s : Shared) (H : Hp) (C : Addr) (cl : List (Str × Addr)) (fp : List Addr), JTs G (X.blk s H scope (compEnvC scope cl C X.env) fp) mt ifs)
    (he : ∀ (s : Shared) (H : Hp) (C : Addr) (cl : List (Str × Addr)) (fp : List Addr), JE G (X.blk s H scope (compEnvC scope cl C X.env) fp) me elt) (hs : ∀ x, foldedSetIterable iter X.env x = pure x := by intro _; rfl) :
    JS G X (sSetLcH i (own.map (·.2)) mi g mt me) (.Assign [.Name y py] (.ListComp elt [⟨tg, iter, ifs, 0⟩] scope lpos) pos) := fun U t => by
  obtain ⟨r, pg, kg⟩ := hg
  refine (ps_setLc hc hN hy hyl hsw (hi U t) ok pg (fun s H C cl fp => ht s H C cl fp U0 L2.takes0) (fun s H C cl fp => he s H C cl fp U0 L2.takes0) hs).imp fun D σ H h => ?_
  obtain ⟨ι, ρ, h0, rh, re, q⟩ := h
  have q := st_to (σ := σ) q
  refine tLc_of rh re hsl kg (Out.to_mono (compO_to q) (fun p h1 ⟨ys, h2, e, z⟩ => ⟨ys, h2, e, fun ι' H' D' vs x r2 hD rv nj nt => ?_⟩) fun _ _ _ z => z)
  split at z
  · rename_i hf
    exact lst_into (G := G) (Q := fun v H' => D.nx (σ.set i (some v)) H') x r2 hD rv nj nt hf fun ι3 v H3 x3 r3 v3 => z ι3 _ H3 x3 r3 ((re.mono x3).set v3)
  · exact z.elim
/-! ### list(..) into the heap -/
def eListH (ms : SemA) : SemE := fun ρ h => (ms ρ h).bind fun xs h1 => match xs with
  | [w] => match w with
    | .d (.tuple ds) => .ok (.ref h1.n) (h1.new (.lst (ds.map .d)))
    | .d (.list ds) => .ok (.ref h1.n) (h1.new (.lst (ds.map .d)))
    | .ref i => match h1.f i with
      | some (.lst ws) => .ok (.ref h1.n) (h1.new (.lst ws))
      | _ => .bad
    | _ => .bad
  | _ => .bad
theorem je_listH {p : Pos} (hK : X.K = G.K) (hg : Gl X "list") (hm : X.mg "list" = none) (ha : JA G X ms (e :: es)) (he : starEach (e :: es) X.env = (false, eval e X.env) :: starEach es X.env := by rfl) (hpl : (backTo pos (starEach es X.env)).any (·.1) = false := by rfl) : JE G X (eListH ms) (.Call (.Name "list" p) (e :: es) [] pos) := fun U t =>
  (pe_callTy call_list_of hg hm PyProof.Rows.boot_list (ha U t) (he := he) (hpl := hpl)).imp fun σ H Q h => by
    refine rdA_bind (k := fun xs h1 => match xs with
      | [w] => match w with
        | .d (.tuple ds) => .ok (.ref h1.n) (h1.new (.lst (ds.map .d)))
        | .d (.list ds) => .ok (.ref h1.n) (h1.new (.lst (ds.map .d)))
        | .ref i => match h1.f i with
          | some (.lst ws) => .ok (.ref h1.n) (h1.new (.lst ws))
          | _ => .bad
        | _ => .bad
      | _ => .bad) h fun ι1 xs h1 vs H1 r1 v1 m1 => ?_
    split at m1
    case h_2 => exact m1.elim
    obtain ⟨v, rfl, rv⟩ := ws1 v1
    have fin : ∀ (ws : List W) (ys : List V), RepWs G.bare ι1 H1 ws ys → (okP G ι1 H1 Q (.ref h1.n) (h1.new (.lst ws))) → ∀ l, H1 l = none → Q (.ref l) (upd H1 l (.lst ys)) := fun ws ys rw' k l nl => k _ _ _ (r1.newExt nl) (r1.new nl ⟨ys, upd_same, rw'.mono (r1.newExt nl)⟩) ⟨l, Io.new_same, rfl⟩
    split at m1
    · rename_i ds
      cases rv with
      | @tup q ys _ t1 t2 => exact ⟨q, ys, rfl, .inr (by rw [hK]; exact t1), fin _ _ (rep_map (G := G.bare) t2) m1⟩
    · rename_i ds
      cases rv with
      | @lst q o ys _ t1 t2 => exact ⟨q, ys, rfl, .inl (.inl (.inr ⟨o, t1⟩)), fin _ _ (rep_map (G := G.bare) t2) m1⟩
    · rename_i i
      split at m1
      · rename_i ws hi
        obtain ⟨q, hq, rfl⟩ := rv
        obtain ⟨q', hq', ys, t1, t2⟩ := r1.ob i _ hi
        rw [hq] at hq'
        cases hq'
        exact ⟨q, ys, rfl, .inl (.inl (.inl t1)), fin _ _ t2 m1⟩
      · exact m1.elim
    · exact m1.elim
/-! ### l.index(x) -/
def idxD (d : PyData) : List PyData → Nat → Option Nat
  | [], _ => none
  | z :: zs, n => if PyData.eqv z d = true then some n else idxD d zs (n + 1)
theorem idxD_spec {d : PyData} : ∀ {zs : List PyData} {n j : Nat}, idxD d zs n = some j → ∃ k z, j = n + k ∧ zs[k]? = some z ∧ PyData.eqv z d = true ∧ ∀ (m : Nat) (z' : PyData), m < k → zs[m]? = some z' → PyData.eqv z' d = false
  | [], _, _, h => by cases h
  | z :: zs, n, j, h => by
    unfold idxD at h
    split at h
    · rename_i q
      cases h
      exact ⟨0, z, rfl, rfl, q, fun m _ hm _ => absurd hm (Nat.not_lt_zero m)⟩
    · rename_i q
      obtain ⟨k, z', e1, e2, e3, e4⟩ := idxD_spec h
      refine ⟨k + 1, z', by omega, by simpa using e2, e3, fun m y hm hy => ?_⟩
      cases m with
      | zero =>
        have : z = y := by simpa using hy
        rw [← this]
        simpa using q
      | succ m => exact e4 m y (by omega) (by simpa using hy)
def indexM : OpM := fun i ws xs h => match xs with
  | [.d d] => match allD ws with
    | some ds => if SeqAt.shaped (.list ds) && SeqAt.shaped d then (idxD d ds 0).map fun j => (.d (.int (j : Nat)), h) else none
    | none => none
  | _ => none
theorem ms_index (hK : X.K = G.K) (hu : X.A.units + 70 < cLine) : MtS G X "list.index" indexM := ⟨_, mt_indexD (by omega), fun ι h H i p ws us xs vs z h' Q r hp hi hu rw' rv e k => by
  unfold indexM at e
  split at e
  · rename_i d
    obtain ⟨v, rfl, q⟩ := ws1 rv
    split at e
    · rename_i ds hd
      split at e
      · rename_i ok
        rw [Bool.and_eq_true] at ok
        cases ej : idxD d ds 0 with
        | none => rw [ej] at e; cases e
        | some j =>
          rw [ej] at e
          cases e
          obtain ⟨n, z, e1, e2, e3, e4⟩ := idxD_spec ej
          have e1 : j = n := by omega
          subst e1
          have rd := allD_rep hd rw'
          rw [hK]
          exact ⟨p, v, d, ds, j, z, rfl, rfl, .lst (.inl (.inl hu)) (RepDs.dp _ _ rd (by have := SeqAt.canLay_of_shaped ok.1; simpa only [PyData.canLay0] using this)), RepD.dp _ _ q (SeqAt.canLay_of_shaped ok.2), ok.1, ok.2, e2, e3, e4, okP.here k r (.int _)⟩
      · cases e
    · cases e
  · cases e⟩
end
end Q

set_option Elab.async false
set_option maxRecDepth 100000
set_option linter.all false
set_option autoImplicit false
/-! QT: lambdas without parameters as values of the frame that makes them. -/
namespace Q
open PySem PySem.Spec PyProof.Rows L2 LamX

/-- a lambda of the text -/
structure LamI where
  params : Arguments
  body : Expr
  scope : Scope
/-- the function object of a lambda that is made with the cells cs under the name q -/
abbrev lamObj (q : Str) (cs : List (Str × Addr)) (l : LamI) (pm : Value) (c' : Addr) (ctv : Value) : Obj := PySem.W.kla_obj "<lambda>" q l.params l.body l.scope (cloFrom cs l.scope.names []) pm c' ctv
/-- the function f stands for good, and so does its code object -/
def LamAt (q : Str) (cs : List (Str × Addr)) (l : LamI) (H : Hp) (f : Addr) : Prop := ∃ (c' : Addr) (pm ctv : Value), H f = some (.frz (lamObj q cs l pm c' ctv) (.ext fun _ => True)) ∧ H c' = some (CodeO c' q)
def cloP (q : Str) (cs : List (Str × Addr)) (ls : List LamI) (k : Nat) (H : Hp) (v : V) : Prop := ∃ l f, ls[k]? = some l ∧ v = .ref f ∧ LamAt q cs l H f
theorem LamAt.mono {q : Str} {cs : List (Str × Addr)} {l : LamI} {H H' : Hp} {f : Addr} (s : Stb H H') (h : LamAt q cs l H f) : LamAt q cs l H' f := by
  obtain ⟨c', pm, ctv, h1, h2⟩ := h
  exact ⟨c', pm, ctv, s.frz _ _ _ h1, s.cod _ _ h2⟩
/-- the closures of a frame: q their name, cs the frame's cells -/
def Clo.of (q : Str) (cs : List (Str × Addr)) (ls : List LamI) : Clo where
  p := fun k _ H v => cloP q cs ls k H v
  mono := fun k ι H ι' H' v e ⟨l, f, h1, h2, h3⟩ => ⟨l, f, h1, h2, h3.mono e.st⟩
  non := fun k ι H v ⟨l, f, _, h2, _⟩ z => by rw [h2] at z; cases z
/-- .. seen from a block of the frame, in which the frame's own names are known by ρ0, σ0 -/
def Clo.at (q : Str) (cs : List (Str × Addr)) (ls : List LamI) (G : Gd) (ρ0 : Env') (σ0 : L2.St) : Clo where
  p := fun k ι H v => cloP q cs ls k H v ∧ RlE G.bare ι ρ0 σ0 H
  mono := fun k ι H ι' H' v e ⟨⟨l, f, h1, h2, h3⟩, r⟩ => ⟨⟨l, f, h1, h2, h3.mono e.st⟩, r.mono0 e⟩
  non := fun k ι H v ⟨⟨l, f, _, h2, _⟩, _⟩ z => by rw [h2] at z; cases z
def Gd.with (G : Gd) (c : Clo) : Gd := { G with cl := c }
theorem with_bare {G : Gd} {c : Clo} : (G.with c).bare = G.bare := rfl
/-- what a lambda asks of the cells -/
structure CellF (cs : List (Str × Addr)) (N : List Str) (sc : Scope) (σ0 : L2.St) (H : Hp) (h : Heap) : Prop where
  inj : ∀ y z c, cs.lookup y = some c → cs.lookup z = some c → y = z
  has : ∀ y ∈ sc.names, y.2 = .free → ∃ c, cs.lookup y.1 = some c
  cel : ∀ y c, cs.lookup y = some c → H c = none ∧ ∃ v, h.IsCell c v
  val : ∀ (i : Nat) (y : Str) (v : V), N[i]? = some y → σ0[i]? = some (some v) → (y, NameKind.free) ∈ sc.names → ∃ u c, RelV v u ∧ cs.lookup y = some c ∧ h.IsCell c (some u)
  len : σ0.length = N.length
theorem CellF.un {cs : List (Str × Addr)} {N : List Str} {sc : Scope} {σ0 : L2.St} {H HZ : Hp} {h h' : Heap} {fs : List Addr} (F : CellF cs N sc σ0 H h) (u : Un fs [] H HZ h h') : CellF cs N sc σ0 HZ h' := by
  have keep : ∀ {c : Addr} {v : Option Value}, H c = none → h.IsCell c v → h'.IsCell c v := fun {c v} n ⟨o, ho, hd⟩ => by
    obtain ⟨sl, q⟩ := u.any ho n (by simp)
    exact ⟨_, q, hd⟩
  refine ⟨F.inj, F.has, fun y c e => ?_, fun i y v h1 h2 h3 => ?_, F.len⟩
  · obtain ⟨n, v, z⟩ := F.cel y c e
    obtain ⟨o, ho, _⟩ := id z
    exact ⟨u.free c o ho n (by simp), v, keep n z⟩
  · obtain ⟨w, c, r, e, z⟩ := F.val i y v h1 h2 h3
    exact ⟨w, c, r, e, keep (F.cel y c e).1 z⟩
section
variable {X : Cx} {pins : List (Addr × Obj)} {σ : L2.St} {H HZ : Hp} {s s1 : Shared}
theorem cellF_of {scope : Scope} (I : Inv X pins σ H s) (L : LamS X.env.scope scope) : CellF X.env.cells X.N scope σ H s.heap := by
  refine ⟨I.ok.inj, L.has I.ok, fun y c e => ⟨I.freeC y c e, I.cell y c e⟩, fun i y v h1 h2 h3 => ?_, I.len⟩
  obtain ⟨m, _, hl⟩ := I.loc
  have cs := L.free _ h3 rfl
  obtain ⟨u, r, q⟩ := hl i y v h1 h2 (cs.elim (fun k => .inr (.inl k)) fun k => .inr (.inr k))
  rcases q with ⟨k, _⟩ | ⟨_, c, e, z⟩
  · have k : X.env.scope.names.lookup y = some .local := k
    rcases cs with k2 | k2
    · rw [show X.env.scope.names.lookup y = _ from k2] at k
      cases k
    · rw [show X.env.scope.names.lookup y = _ from k2] at k
      cases k
  · exact ⟨u, c, r, e, z⟩
/-- the lambda's frame is laid -/
theorem lam_enter {A : Around} {outer : List Env} {E : XK} {scope : Scope} {f c' : Addr} {h₁ : Heap} {tk : Nat} {σ0 : L2.St} (F : CellF X.env.cells X.N scope σ0 HZ s1.heap) (L : LamS X.env.scope scope) (e0 : Env0 X.prog X.w X.K X.mg X.base A outer s1 HZ) (hd : A.handled = none)
    (hns : h₁.Ns s1.heap.objs.size fun y => ([] : List (Str × Value)).reverse.lookup y) (kp : ∀ b o, s1.heap.get? b = some o → h₁.get? b = some o) :
    Inv (lamCx X A outer s1 HZ E scope f c') [] σ0 HZ { s1 with heap := h₁, toks := tk } := by
  have back : ∀ {y : Str} {c : Addr}, (cloFrom X.env.cells scope.names []).lookup y = some c → X.env.cells.lookup y = some c := fun {y c} e => by
    rcases cloFrom_mem (PySem.mem_of_lookup e) with hm | ⟨h1, h2⟩
    · cases hm
    · obtain ⟨c1, hc⟩ := F.has _ h1 rfl
      have hc : X.env.cells.lookup y = some c1 := hc
      rw [show c = c1 by rw [h2, hc] <;> rfl]
      exact hc
  have fwd : ∀ {y : Str}, scope.names.lookup y = some .free → ∃ c, (cloFrom X.env.cells scope.names []).lookup y = some c := fun {y} hl => mem_lookup (cloFrom_has (cells := X.env.cells) (acc := []) (PySem.mem_of_lookup hl : (y, NameKind.free) ∈ scope.names))
  have moved : ∀ {c : Addr} {v : Option Value}, s1.heap.IsCell c v → h₁.IsCell c v := fun {c v} ⟨o, ho, hd⟩ => ⟨o, kp _ _ ho, hd⟩
  have none_ex : ∀ b : Addr, b ∉ (lamCx X A outer s1 HZ E scope f c').ex := fun b z => List.not_mem_nil (show b ∈ ([] : List Addr) from z)
  have ok : (lamCx X A outer s1 HZ E scope f c').Ok :=
    { mod := e0.mod, kind := L.kind, glob := rfl, blt := rfl, above := Nat.le_refl _
      inj := fun y z c e1 e2 => F.inj y z c (back e1) (back e2)
      has := fun y hy => by
        rcases (show scope.names.lookup y = some .cell ∨ scope.names.lookup y = some .free from hy) with k | k
        · exact absurd rfl (L.own _ (PySem.mem_of_lookup k)).2
        · exact fwd k
      cab := fun y c z _ => absurd (show false = true from z) Bool.false_ne_true
      hd := fun _ => hd, frames := Around.frames_deeper e0.frames, stk := .inr ⟨rfl, rfl⟩, exf := fun b z => absurd z (none_ex b)
      bs := e0.bs, bsz := e0.bsz, noex := fun b _ _ => none_ex b, exfs := fun b z => absurd z (none_ex b), funs := e0.funs, frf := e0.frf }
  refine ⟨ok, rfl, e0.bare, Un.kept kp, ⟨_, hns, fun i y v h1 h2 h3 => ?_⟩, fun y c e => ?_, e0.hok.fresh (Nat.le_refl _), fun y c e => (F.cel y c (back e)).1, fun q hq => ?_, e0.hok.kept kp, F.len⟩
  · rcases (show Vis scope y from h3) with k | k | k
    · exact absurd rfl (L.own _ (PySem.mem_of_lookup k)).1
    · exact absurd rfl (L.own _ (PySem.mem_of_lookup k)).2
    · obtain ⟨u, c, r, e, z⟩ := F.val i y v h1 h2 (PySem.mem_of_lookup k)
      obtain ⟨c2, e2⟩ := fwd k
      have e3 := back e2
      rw [e] at e3
      cases e3
      exact ⟨u, r, .inr ⟨.inr k, c, e2, moved z⟩⟩
  · obtain ⟨_, v, z⟩ := F.cel y c (back e)
    exact ⟨v, moved z⟩
  · exact absurd (show q ∈ ([] : List (Addr × Obj)) ++ [] from hq) (by simp)
/-- a lambda is made: its function object stands for good -/
theorem lam_makeF {T : List (Addr × Str)} {c P : Addr} {l : LamI} {pos : Pos} {E : Value → Shared → Prop} {Q : Value → Shared → Prop} (I : Inv X pins σ H s) (TB : TabB X.base X.mg c P) (hcode : X.env.code = .ref c)
    (hm : (P, X.env.qual ++ "<lambda>") ∈ T) (hu : ∀ p ∈ T, p.1 = P → p.2 = X.env.qual ++ "<lambda>") (hT : Tabs T H) (hdef : defaultsOf l.params X.env = ([], [])) (hfree : ∀ y ∈ l.scope.names, y.2 = .free → ∃ c, X.env.cells.lookup y.1 = some c)
    (h : ∀ (f : Addr) (H1 : Hp) (s' : Shared), Inv X pins σ H1 s' → ExtN H H1 → Tabs T H1 → LamAt (X.env.qual ++ "<lambda>") X.env.cells l H1 f → Q (.ref f) s') :
    wpAny (model X.prog X.w) X.A (eval (.Lambda l.params l.body l.scope pos) X.env) Q E s := by
  obtain ⟨ps, hP, ht, ha⟩ := hT _ hm
  have bP : s.heap.BuiltinsAt X.mg P := TB.bm.keeps I.bk
  have hP' : s.heap.get? P = some { cls := .none, data := .fields ps } := I.hok P _ hP
  -- the function object itself, laid last
  have lay : ∀ (H1 : Hp) (s1 : Shared) (c' : Addr) (ctv : Value) (tk : Nat), Inv X pins σ H1 s1 → ExtN H H1 → Tabs T H1 → H1 c' = some (CodeO c' (X.env.qual ++ "<lambda>")) →
      Q (.ref s1.heap.objs.size) { s1 with heap := s1.heap.push (lamObj (X.env.qual ++ "<lambda>") X.env.cells l ((X.mg "__name__").getD .none) c' ctv), toks := tk } := fun H1 s1 c' ctv tk I1 eN T1 hc => by
    have n := I1.hok.fresh (Nat.le_refl s1.heap.objs.size)
    have I2 := I1.laid (a := s1.heap.objs.size) (o := .frz (lamObj (X.env.qual ++ "<lambda>") X.env.cells l ((X.mg "__name__").getD .none) c' ctv) (.ext fun _ => True)) (t' := tk) (fun _ _ q => Heap.get?_push_of_some _ q) (Nat.le_refl _) ⟨Heap.get?_push_size _ rfl, trivial, ⟨_, Heap.get?_push_size _ rfl⟩, fun _ _ _ _ => trivial⟩
    exact h _ _ _ I2 (eN.trans (ExtN.of fun b o q => by rw [upd_ne (ne_of_none q n)]; exact q)) (T1.ext fun b o q => by rw [upd_ne (ne_of_none q n)]; exact q) ⟨c', _, ctv, upd_same, by rw [upd_ne (ne_of_none hc n)]; exact hc⟩
  refine PySem.W.kla_eval hdef ?_
  cases hc : codeAmong pos ps.toList with
  | some cv =>
    obtain ⟨c', e, hco⟩ := ha pos cv hc
    subst e
    refine PySem.W.kla_makeFunctionHit (mg := X.mg) (c := c) (P := P) (ps := ps) (closure_ok hfree) I.ok.glob (I.mod.glob.keeps I.bk) hcode (TB.code.keeps I.bk) hP' ht hc bP fun ctv h' tk hx hsz => ?_
    exact lay H { s with heap := h' } c' ctv tk (I.kept (t' := s.toks) hx) (ExtN.refl H) hT hco
  | none =>
    refine PySem.W.kla_makeFunction (mg := X.mg) (c := c) (P := P) (ps := ps) (closure_ok hfree) I.ok.glob (I.mod.glob.keeps I.bk) hcode (TB.code.keeps I.bk) hP' ht hc TB.gP bP fun c' ctv h' tk hx hge hlt hrec htb => ?_
    obtain ⟨c2, oc, vs, t, e2, hoc, hd, hv⟩ := hrec
    cases e2
    have nC : H c' = none := I.hok.fresh hge
    have I1 := inv_table (t' := s.toks) (more := #[rawInt pos.line, rawInt pos.col, .ref c']) (h' := h') I hP hx htb hge ⟨oc, vs, t, hoc, hd, hv⟩
    have eN : ExtN H (upd (upd H P (.tbl (ps ++ #[rawInt pos.line, rawInt pos.col, .ref c']))) c' (CodeO c' (X.env.qual ++ "<lambda>"))) := fun b o e n => by
      have n1 : b ≠ c' := ne_of_none e nC
      have n2 : b ≠ P := fun z => by
        rw [z, hP] at e
        exact n ps (Option.some.inj e).symm
      rw [upd_ne n1, upd_ne n2]
      exact e
    refine lay _ { s with heap := h' } c' ctv tk I1 eN (fun p hp => ?_) upd_same
    by_cases hb : p.1 = P
    · refine ⟨_, by rw [hb, upd_ne (ne_of_none hP nC), upd_same], ?_, fun p' cv hcv => ?_⟩
      · rw [show (ps ++ #[rawInt pos.line, rawInt pos.col, .ref c']).toList = ps.toList ++ [rawInt pos.line, rawInt pos.col, .ref c'] by simp]
        exact PySem.TriplesOk_snoc _ _ _ _ ht
      · rw [show (ps ++ #[rawInt pos.line, rawInt pos.col, .ref c']).toList = ps.toList ++ [rawInt pos.line, rawInt pos.col, .ref c'] by simp] at hcv
        rw [hu p hp hb]
        rcases among_app _ ht hcv with z | z
        · obtain ⟨c0, e1, e2⟩ := ha p' cv z
          exact ⟨c0, e1, eN _ _ e2 codeO_ne⟩
        · exact ⟨c', z, upd_same⟩
    · obtain ⟨qs, a1, a2, a3⟩ := hT p hp
      refine ⟨qs, by rw [upd_ne (ne_of_none a1 nC), upd_ne hb]; exact a1, a2, fun p' cv hcv => ?_⟩
      obtain ⟨c0, e1, e2⟩ := a3 p' cv hcv
      exact ⟨c0, e1, eN _ _ e2 codeO_ne⟩
end
/-- all but the tables stay: an extension -/
theorem Ext.ofN {ι : Io} {H H1 : Hp} (e : ExtN H H1) : Ext ι H ι H1 := ⟨fun _ _ h => h, ⟨fun b xs q => e b _ q (fun ps z => by cases z), fun b o u q => e b _ q (fun ps z => by cases z), fun b q z => e b _ z codeO_ne⟩, fun b o q _ t => e b o q t, fun b ⟨o, q, t⟩ => ⟨o, e b o q t, t⟩, fun _ _ h => .inl h⟩
theorem RlH.ofN {G : Gd} {ι : Io} {h : AH} {H H1 : Hp} (r : RlH G ι h H) (e : ExtN H H1) (t : Tabs G.tabs H1) : RlH G ι h H1 where
  ob := fun i o hi => by
    obtain ⟨a, h1, h2⟩ := r.ob i o hi
    obtain ⟨u, q, n⟩ := r.trk i a h1
    exact ⟨a, h1, h2.mono (Ext.ofN e) (by rw [e a u q n, q])⟩
  lt := r.lt
  inj := r.inj
  trk := fun i a hi => by
    obtain ⟨u, q, n⟩ := r.trk i a hi
    exact ⟨u, e a u q n, n⟩
  tab := t
def eLam (k : Nat) : SemE := fun _ h => .ok (.clo k) h
theorem je_lam {G : Gd} {X : Cx} {ls : List LamI} {k : Nat} {l : LamI} {c P : Addr} {pos : Pos} (hk : ls[k]? = some l) (hG : ∀ k H v ι, cloP (X.env.qual ++ "<lambda>") X.env.cells ls k H v → G.cl.p k ι H v) (TB : TabB X.base X.mg c P) (hcode : X.env.code = .ref c)
    (hm : (P, X.env.qual ++ "<lambda>") ∈ G.tabs) (hu : ∀ p ∈ G.tabs, p.1 = P → p.2 = X.env.qual ++ "<lambda>") (hdef : defaultsOf l.params X.env = ([], [])) (L : LamS X.env.scope l.scope) : JE G X (eLam k) (.Lambda l.params l.body l.scope pos) := fun U t =>
  ⟨fun pins s σ H Q I ⟨ι, ρ, h0, rh, re, m⟩ => lam_makeF I TB hcode hm hu rh.tab hdef (L.has I.ok) fun f H1 s' I1 eN T1 la => ⟨.ref f, H1, I1, rfl, m ι _ _ (Ext.ofN eN) (rh.ofN eN T1) (hG k H1 _ ι ⟨l, f, hk, rfl, la⟩)⟩⟩
end Q

set_option Elab.async false
set_option maxRecDepth 100000
set_option linter.all false
set_option autoImplicit false
/-! QU: a caught exception that stands for good; a function that calls what it got and tells the error. -/
namespace Q
open PySem PySem.Spec PyProof.Rows L2 LamX

section
variable {X : Cx} {pins : List (Addr × Obj)} {σ : L2.St} {H : Hp} {s : Shared}
/-- an object of the heap, new since the entry and known to nobody, stands for good from now on -/
theorem _root_.L2.Inv.keepF {a : Addr} {o : Obj} (I : Inv X pins σ H s) (ha : s.heap.get? a = some o) (na : H a = none) (n0 : ∀ o, X.s_0.heap.get? a ≠ some o) (nL : a ≠ X.env.locals) (nC : ∀ y c, X.env.cells.lookup y = some c → c ≠ a) (nP : ∀ p ∈ X.pn ++ pins, p.1 ≠ a) :
    Inv X pins σ (upd H a (.frz o (.ext fun _ => True))) s := by
  have st : ∀ b u, H b = some u → upd H a (.frz o (.ext fun _ => True)) b = some u := fun b u q => by rw [upd_ne (ne_of_none q na)]; exact q
  refine ⟨I.ok, I.os, I.bare, ⟨I.base.keep, I.base.slot, fun b ob e n hx => ?_, I.base.there, fun b xs e => st _ _ (I.base.tups b xs e), fun b ob u e => st _ _ (I.base.frzs b ob u e), fun b ps e => ?_⟩, I.loc, I.cell, ?_, fun y c e => ?_, fun p hp => ?_, fun b u e => ?_, I.len⟩
  · rw [upd_ne (fun z => n0 ob (by rw [← z]; exact e))]
    exact I.base.free b ob e n hx
  · obtain ⟨more, q⟩ := I.base.tbls b ps e
    exact ⟨more, st _ _ q⟩
  · rw [upd_ne (Ne.symm nL)]
    exact I.free
  · rw [upd_ne (nC y c e)]
    exact I.freeC y c e
  · obtain ⟨h1, h2, h3, h4, h5⟩ := I.pin p hp
    exact ⟨h1, by rw [upd_ne (nP p hp)]; exact h2, h3, h4, h5⟩
  · by_cases hb : b = a
    · subst hb
      rw [upd_same] at e
      cases e
      exact ⟨ha, trivial, ⟨o, ha⟩, fun _ _ _ _ => trivial⟩
    · rw [upd_ne hb] at e
      exact (I.hok b u e).stay (fun _ _ _ q => q) (fun c q => st _ _ q) fun c xs q => st _ _ q
end
/-- what the clause wishes of an exception of the body: it stands for good behind the suite -/
def wK (K : PySem.W.Frag) (c : Value) (i : Nat) (ts : Addr → Value → Option Addr → TS) (D : Ends) : WX := fun cls d σ H => PySem.W.exmOne K cls c = some true ∧
  ∀ a, H a = none → ts a cls d { nx := fun σ' H' => ∀ oe, Zc cls d oe → (∃ vs, oe.data = .fields vs) → H' a = none → D.nx (σ'.set i none) (upd H' a (.frz oe (.ext fun _ => True))), rt := fun _ _ => False } (σ.set i (some (.ref a))) H
section
variable {X : Cx} {x n : Str} {c : Value} {i : Nat} {body suite : List Stmt} {b₀ : Stmt} {np pos pos' : Pos} {tb : WX → TS} {ts : Addr → Value → Option Addr → TS}
theorem ps_tryK (hex : X.ex = []) (hs : X.stack = X.env :: X.outer) (hf : X.env.frame = some X.env.locals) (hN : X.N.Nodup) (hi : X.N[i]? = some n) (hln : X.env.kindOf n = some .local) (hg : Gl X x) (hm : X.mg x = some c) (hdb : (x == ("__debug__" : Str)) = false)
    (hb : ∀ (W : WX) (pn : List (Addr × Obj)) (xe : Value → Shared → Prop), Takes (X.tr pn xe) W → PSs (X.tr pn xe) body (tb W))
    (hsu : ∀ (a : Addr) (oe : Obj) (cls : Value) (d : Option Addr) (pn : List (Addr × Obj)), PSs (X.suite a ((a, oe) :: pn)) (b₀ :: suite) (ts a cls d)) :
    PS X (.Try body [.ExceptHandler (some (.Name x np)) (some n) (b₀ :: suite) pos'] [] [] pos) (fun D σ H => tb (wK X.K c i ts D) D σ H) := by
  constructor
  intro pins s σ H D I h
  have ok := I.ok
  have hfr : X.A.frames = some (X.env :: X.outer) := by rw [ok.frames, hs]
  refine wpAny_Try_except (wpAny_mono ((hb (wK X.K c i ts D) (X.pn ++ pins) (fun e s₁ => wpAny (model X.prog X.w) X.A (noteFrame e X.env) (fun _ s₂ => wpAny (model X.prog X.w) X.A (setFlight e none) (fun _ s₃ =>
    wpAny (model X.prog X.w) X.A (handleBy e X.env [.ExceptHandler (some (.Name x np)) (some n) (b₀ :: suite) pos']) (SP X pins D) X.xe s₃) X.xe s₂) X.xe s₁) (fun u s' xx => ?_)).run [] s σ H D (I.toTry _) h) (fun f s1 hsp => ?_) fun e s1 he => he)
  · obtain ⟨a, B, sI, pins', σ', H', cls, d, rfl, J', nb, up, sky, na, os, ag, hx1, hyes⟩ := xx
    have J : Inv X pins σ' H' sI := J'.ofTry ok
    have bn : B.get? a = none := by
      rcases sky with ⟨_, q, _⟩ | ⟨_, q, _⟩ | ⟨_, q, _⟩ <;> exact q
    -- what stood in sI is not a
    have apart : ∀ b o, sI.heap.get? b = some o → b ∉ frs X.stack → b ≠ a := fun b o e hb z => by
      have q := nb b o e hb
      rw [z, bn] at q
      cases q
    show wpAny (model X.prog X.w) X.A (noteFrame (.ref a) X.env) _ _ _
    refine Sky.land Zc.steady hfr hf (by rw [← hs]; exact sky) fun h3 fl3 up3 => ?_
    have J3 : Inv X pins σ' H' { s' with heap := h3 } := J.landed nb fl3.1 (up.trans up3) os ag
    obtain ⟨oe3, vs3, he3, hz3, hd3⟩ := fl3.there
    have nfr : a ∉ frs (X.env :: X.outer) := fun hm => by
      obtain ⟨_, o', e', hnf⟩ := fl3.2.2.1.mem hm
      rw [he3] at e'
      cases e'
      exact hnf _ hd3
    have nL : a ≠ X.env.locals := fun z => nfr (List.mem_filterMap.mpr ⟨X.env, List.mem_cons_self, by rw [hf, z]⟩)
    have nF : a ∉ X.fs := fun hm => by
      obtain ⟨e, he, q⟩ := List.mem_filterMap.mp hm
      exact nfr (List.mem_filterMap.mpr ⟨e, List.mem_cons_of_mem _ he, q⟩)
    have nS : a ∉ frs X.stack := by rw [hs]; exact nfr
    have away : ∀ b o, sI.heap.get? b = some o → b ≠ a := fun b o e z => apart b o e (by rw [z]; exact nS) z
    have n0 : ∀ o, X.s_0.heap.get? a ≠ some o := fun o e => by
      obtain ⟨o', q⟩ := J.base.there a o e (by rw [hex]; simp)
      exact away a o' q rfl
    have nC : ∀ y c, X.env.cells.lookup y = some c → c ≠ a := fun y c e => by
      obtain ⟨v, o, q, _⟩ := J.cell y c e
      exact away c o q
    have nP : ∀ p ∈ X.pn ++ pins, p.1 ≠ a := fun p hp => away _ _ (J.pin p hp).1
    have S3 := J3.suite he3 hd3 na nL nF
    refine wpAny_handleBy_cons (codeAny_handlers_test ?_) (by intro q; cases q)
    have LT : PySem.W.Looks (model X.prog X.w) h3 (typeOf (.ref a)) cls := fun A Q E s k q => wpAny_typeOf_ref (k _ _ he3) (by rw [hz3.1]; exact q)
    have LM := PySem.W.exm_one (M := model X.prog X.w) (J3.kIn) LT hx1
    refine ld_glob (X := X.suite a ((a, oe3) :: (X.pn ++ pins))) S3 hg hm (LM.here ?_) hdb
    refine codeAny_handlers_suite_as (HandSPX.lands_againZ fl3 fun h4 fl4 up4 => ?_)
    have J4 : Inv X pins σ' H' { s' with heap := h4 } := J.landed nb fl4.1 ((up.trans up3).trans up4) os ag
    obtain ⟨oe4, vs4, he4, hz4, hd4⟩ := fl4.there
    refine store_ok (X := X.suite a ((a, oe4) :: (X.pn ++ pins))) (v := .ref a) (J4.suite he4 hd4 na nL nF) hN hi (.inl hln) rfl (fun s5 S5 => ?_) (.inr hln)
    refine wpAny_mono ((hsu a oe4 cls d (X.pn ++ pins)).run [] s5 _ H' _ S5 (hyes a na)) (fun f s6 hsp => ?_) (fun _ _ z => False.elim z)
    cases f with
    | next =>
      obtain ⟨σ6, H6, S6, q6⟩ := hsp
      obtain ⟨e6, n6, _⟩ := S6.pin (a, oe4) (List.mem_append_left _ List.mem_cons_self)
      have K6 := (S6.unsuite ok).keepF e6 n6 n0 nL nC nP
      exact gone_ok K6 hN hi hln fun s7 J7 => ⟨_, _, J7, q6 oe4 hz4 ⟨_, hd4⟩ n6⟩
    | brk =>
      obtain ⟨_, _, _, q6⟩ := hsp
      exact False.elim q6
    | cont =>
      obtain ⟨_, _, _, q6⟩ := hsp
      exact False.elim q6
    | ret u =>
      obtain ⟨_, _, _, _, _, q6⟩ := hsp
      exact False.elim q6
  · cases f with
    | next =>
      obtain ⟨σ', H', J', q⟩ := hsp
      exact wpAny_execs_nil ⟨σ', H', J'.ofTry ok, q⟩
    | brk =>
      obtain ⟨σ', H', J', q⟩ := hsp
      exact ⟨σ', H', J'.ofTry ok, q⟩
    | cont =>
      obtain ⟨σ', H', J', q⟩ := hsp
      exact ⟨σ', H', J'.ofTry ok, q⟩
    | ret u =>
      obtain ⟨v, σ', H', J', r, q⟩ := hsp
      exact ⟨v, σ', H', J'.ofTry ok, r, q⟩
end
end Q

set_option Elab.async false
set_option maxRecDepth 100000
set_option linter.all false
set_option autoImplicit false
/-! QV: the def that calls a lambda and tells what it raised. -/
namespace Q
open PySem PySem.Spec PyProof.Rows L2 LamX

/-- what is to be known of a lambda of the maker X: it stands as a function of the frame's names -/
structure LamOk (G : Gd) (X : Cx) (k : Nat) (l : LamI) (mk : SemE) : Prop where
  L : LamS X.env.scope l.scope
  bind : ∀ (q : Str) (cs : List (Str × Addr)) (pm cv ctv : Value), bindArgs (PySem.W.kla_fn "<lambda>" q l.params l.body l.scope (cloFrom cs l.scope.names []) pm cv ctv) ⟨[], []⟩ = pure []
  body : ∀ (A : Around) (outer : List Env) (s : Shared) (H : Hp) (E : XK) (f c' : Addr), Room k (A.deeper (lamEnv X l.scope s.heap.objs.size f c')) → JE G.bare (lamCx X A outer s H E l.scope f c') mk l.body
section
variable {G : Gd} {X Y : Cx} {k : Nat} {l : LamI} {mk : SemE} {ρ0 : Env'} {σ0 : L2.St} {H0 : Hp} {s0 : Shared}
/-- a(), a the lambda: within any frame Y over the maker's ground, entered at s0 -/
theorem pe_actF {W : WX} {a : Str} {p1 p2 : Pos} (hc : X.prog = Y.prog ∧ X.w = Y.w ∧ X.K = Y.K ∧ X.mg = Y.mg ∧ X.base = Y.base) (F : CellF X.env.cells X.N l.scope σ0 H0 s0.heap) (O : LamOk G X k l mk) (tk : Takes Y W) (hr : Room (k + 1) Y.A)
    (h0 : Y.H_0 = H0) (hs0 : Y.s_0 = s0) (hex : Y.ex = []) (hN : Y.N[0]? = some a) (hv : Vis Y.env.scope a) (hd : (a == ("__debug__" : Str)) = false) (hcd : (a == ("__classdict__" : Str)) = false) :
    PE Y (.Call (.Name a p1) [] [] p2) (fun σZ HZ Q => ∃ f, σZ[0]? = some (some (.ref f)) ∧ ∃ (ι : Io) (h : AH), RlH G.bare ι h HZ ∧ RlE G.bare ι ρ0 σ0 HZ ∧ LamAt (X.env.qual ++ "<lambda>") X.env.cells l HZ f ∧ (mk ρ0 h).to (okP G.bare ι HZ Q) (erP G.bare ι HZ (xk W σZ))) := by
  constructor
  intro pinsZ sZ σZ HZ Q IZ hx
  obtain ⟨f, hs, ι, h, rh, re, la, m⟩ := hx
  refine wpAny_Call_Name_kw (thn ((pe_var (pos := p1) (i := 0) hN hv hd hcd).run pinsZ sZ σZ HZ (fun v H1 => v = .ref f ∧ H1 = HZ) IZ ⟨.ref f, hs, rfl, rfl⟩) fun u s1 hu => ?_)
  obtain ⟨v, H1, I1, r1, ev, eH⟩ := hu
  subst ev
  rw [eH] at I1
  obtain rfl : u = Value.ref f := r1
  obtain ⟨c', pm, ctv, hf, hco⟩ := la
  have at1 : s1.heap.get? f = some (lamObj (X.env.qual ++ "<lambda>") X.env.cells l pm c' ctv) := (I1.hok f _ hf).1
  obtain ⟨⟨oc, vs, t, hoc, hdc, hvc⟩, _, _⟩ := I1.hok c' _ hco
  refine PySem.W.callWith_F0 ⟨_, _, _, _, at1⟩ ?_
  have base := I1.base
  rw [hex, h0, hs0] at base
  have F1 : CellF X.env.cells X.N l.scope σ0 HZ s1.heap := F.un base
  have e0 : Env0 X.prog X.w X.K X.mg X.base Y.A Y.stack s1 HZ := by
    rw [hc.1, hc.2.1, hc.2.2.1, hc.2.2.2.1, hc.2.2.2.2]
    exact I1.env0
  have run : codeAny (model X.prog X.w) Y.A (.call (.ref f) ⟨[], []⟩) (CR (L2.CX X.prog X.w) Y.stack X.prog X.w HZ s1 Q (WE W σZ)) s1 := by
    refine PySem.W.kla_callFunE hr.depth at1 rfl O.L.co O.L.gen rfl ⟨c', oc, vs, t, rfl, hoc, hdc, hvc⟩ ?_
    rw [O.bind]
    refine wpAny_pure (wpAny_newFunctionEnv (fun y hy => (O.L.own y hy).2) (fun y hy => absurd hy (by simp)) (fun h₁ hns hsb => ⟨I1.nolimit.fresh _ hsb, ?_⟩) O.L.kind)
    have kp : ∀ b o, s1.heap.get? b = some o → h₁.get? b = some o := fun b o e => hsb.extBut b o (Nat.ne_of_lt (Heap.lt_size e)) (Heap.get?_push_of_some _ e)
    have J := lam_enter (E := WE W σZ) (f := f) (c' := c') (tk := s1.toks + ([] : List (Str × Value)).length) F1 O.L e0 hr.hd hns kp
    have body := O.body Y.A Y.stack s1 HZ (WE W σZ) f c' (hr.deeper _) (fun c d _ H' => WE W σZ c d H') (takes_of rfl rfl rfl rfl)
    refine PySem.W.kla_codeExpr (wpAny_mono (body.run [] _ _ HZ Q J ⟨ι, ρ0, h, rh, re, m⟩) (fun v s' hq => ?_) fun e s' hq => hq)
    obtain ⟨w', H', J', rv, q⟩ := hq
    exact ⟨w', H', J'.os, J'.bare, J'.base, J'.hok, rv, q⟩
  rw [hc.1, hc.2.1] at run
  refine wpAny_call (codeAny_mono run fun r s' hq => ?_)
  cases r with
  | error e => exact passAt tk σZ pinsZ HZ s1 e s' I1 hq
  | ok fl =>
    cases fl with
    | ret u => exact I1.after hq
    | next => exact False.elim hq
    | brk => exact False.elim hq
    | cont => exact False.elim hq
/-- the body of the try, read -/
def tAct (G : Gd) (X : Cx) (l : LamI) (mk : SemE) (ρ0 : Env') (σ0 : L2.St) : WX → TS := fun W D σ H => ∃ f, σ[0]? = some (some (.ref f)) ∧ ∃ (ι : Io) (h : AH), RlH G.bare ι h H ∧ RlE G.bare ι ρ0 σ0 H ∧ LamAt (X.env.qual ++ "<lambda>") X.env.cells l H f ∧ (mk ρ0 h).to (okP G.bare ι H fun _ H' => D.nx σ H') (erP G.bare ι H (xk W σ))
/-- the def's body: found = None / try: a() / except x as er: found = er / return found -/
abbrev caughtBody (a fo er x : Str) (j : Nat) (q1 q2 q3 p1 p2 p3 np r1 r2 r3 pos' tpos t1 t2 : Pos) : List Stmt :=
  [.Assign [.Name fo q1] (.Constant .none j q2) q3, .Try [.Expr (.Call (.Name a p1) [] [] p2) p3] [.ExceptHandler (some (.Name x np)) (some er) [.Assign [.Name fo r1] (.Name er r2) r3] pos'] [] [] tpos, .Return (some (.Name fo t1)) t2]
/-- what a caught call comes to -/
def caughtTo (errs : List String) (o : Out W) : Out W := match o with
  | .ok _ h => .ok (.d .none) h
  | .err c fs h => if c ∈ errs then .ok (.exc c fs) h else .bad
  | .bad => .bad
/-- the def that catches, as it stands in the written part -/
structure CaughtDef (X : Cx) (fn : Str) (g : Addr) (errs : List String) (mg : Str → Option Value) : Prop where
  gm : X.mg fn = some (.ref g)
  kp : PySem.W.keepIn X.K (.ref g) = true
  ex : ∃ (st : Stmt) (fd : FuncData) (a fo er x : Str) (CS : Addr) (j : Nat) (q1 q2 q3 p1 p2 p3 np r1 r2 r3 pos' tpos t1 t2 : Pos), L2.Fun X.K fn fn st g fd ∧ L2.Binds X.K fd [a] [] ∧ FnScope [a, fo, er] [a] (defScope st) ∧ defBody st = caughtBody a fo er x j q1 q2 q3 p1 p2 p3 np r1 r2 r3 pos' tpos t1 t2 ∧
    (defScope st).names.lookup a = some .local ∧ (defScope st).names.lookup fo = some .local ∧ (defScope st).names.lookup er = some .local ∧ (defScope st).names.lookup x = some .globalImplicit ∧ X.mg x = some (.ref CS) ∧
    (∀ n ∈ [a, fo, er, x], (n == ("__debug__" : Str)) = false ∧ (n == ("__classdict__" : Str)) = false) ∧ ∀ c ∈ errs, ∀ C, mg (Str.ofString c) = some (.ref C) → PySem.W.exmOne X.K (.ref C) (.ref CS) = some true
/-- the def is called with the lambda f, within B over the maker's ground -/
theorem caught_run {B : Cx} {pins : List (Addr × Obj)} {σ : L2.St} {H : Hp} {s : Shared} {errs : List String} {fn : Str} {g f : Addr} {ι : Io} {h : AH} {Q : VK} {U : WX} (hc : X.prog = B.prog ∧ X.w = B.w ∧ X.K = B.K ∧ X.mg = B.mg ∧ X.base = B.base) (D : CaughtDef B fn g errs G.mg) (I : Inv B pins σ H s) (tk : Takes B U) (hr : Room (k + 2) B.A)
    (F : CellF X.env.cells X.N l.scope σ0 H s.heap) (O : LamOk G X k l mk) (rh : RlH G.bare ι h H) (re : RlE G.bare ι ρ0 σ0 H) (la : LamAt (X.env.qual ++ "<lambda>") X.env.cells l H f) (m : (caughtTo errs (mk ρ0 h)).to (okP G.bare ι H Q) (erP G.bare ι H (xk U σ))) :
    wpAny (model B.prog B.w) B.A (call (.ref g) [.ref f]) (EP B pins σ Q) B.xe s := by
  obtain ⟨st, fd, a, fo, er, x, CS, j, q1, q2, q3, p1, p2, p3, np, r1, r2, r3, pos', tpos, t1, t2, FN, hb, S, hbody, n1, n2, n3, n4, mx, dbg, herr⟩ := D.ex
  obtain ⟨oc, od, kV, doc, pm, an, cdv, ct, osl, rfl, lk, hcd⟩ := FN.ex
  have run := run_ofS (CX := L2.CX B.prog B.w) (E := WE U σ) (Q := Q) (N := [a, fo, er]) (ps := [a]) (us := [.ref f]) (vs := [.ref f]) lk hcd S hr I.env0 (hb s [.ref f] I.kIn rfl) (.cons rfl .nil) rfl fun hr' => by
    have dd : ∀ n ∈ [a, fo, er, x], (n == ("__debug__" : Str)) = false := fun n hn => (dbg n hn).1
    have dc : ∀ n ∈ [a, fo, er, x], (n == ("__classdict__" : Str)) = false := fun n hn => (dbg n hn).2
    show ∃ t, PSs _ (defBody st) t ∧ _
    rw [hbody]
    generalize hZ : cxOf (L2.CX B.prog B.w) B.prog B.w B.K B.mg B.base [a, fo, er] fn (defScope st) g cdv B.A B.stack s H (WE U σ) = Z
    have zN : Z.N = [a, fo, er] := by rw [← hZ]; rfl
    have zsc : Z.env.scope = defScope st := by rw [← hZ]; rfl
    have zK : Z.K = B.K := by rw [← hZ]; rfl
    have znd : Z.N.Nodup := by rw [zN]; exact S.nd
    have v : ∀ {y : Str}, (defScope st).names.lookup y = some .local → Z.env.scope.names.lookup y = some .local := fun h => by rw [zsc]; exact h
    have gx : Gl Z x := by
      show Z.env.scope.names.lookup x = some .globalImplicit
      rw [zsc]
      exact n4
    have mgx : Z.mg x = some (.ref CS) := by rw [← hZ]; exact mx
    have s1 : PS Z (.Assign [.Name fo q1] (.Constant .none j q2) q3) (tAsg (L2.tC .non) (gName 1)) := ps_set znd (show Z.N[1]? = some fo by rw [zN]; rfl) (.inl (v n2)) pe_non (by first | rfl | (rw [← hZ]; rfl)) (.inr (v n2))
    have s3 : PS Z (.Return (some (.Name fo t1)) t2) (tRet (tVar 1)) := ps_ret (pe_var (show Z.N[1]? = some fo by rw [zN]; rfl) (.inl (v n2)) (dd fo (by simp)) (dc fo (by simp)))
    have s2 : PS Z (.Try [.Expr (.Call (.Name a p1) [] [] p2) p3] [.ExceptHandler (some (.Name x np)) (some er) [.Assign [.Name fo r1] (.Name er r2) r3] pos'] [] [] tpos) (fun D σ H => tAct G X l mk ρ0 σ0 (wK Z.K (.ref CS) 2 (fun _ _ _ => tAsg (tVar 2) (gName 1)) D) D σ H) := by
      refine ps_tryK (tb := tAct G X l mk ρ0 σ0) (ts := fun _ _ _ => tAsg (tVar 2) (gName 1)) (i := 2) (by rw [← hZ]; rfl) (by rw [← hZ]; rfl) (by rw [← hZ]; rfl) znd (show Z.N[2]? = some er by rw [zN]; rfl) (v n3) gx mgx (dd x (by simp)) (fun W pn xe tk' => ?_) fun a' oe cls d pn => ?_
      · refine pss_one ((ps_expr (pe_actF (Y := Z.tr pn xe) (W := W) (ρ0 := ρ0) (p1 := p1) (p2 := p2) ?_ F O tk' ?_ (by rw [← hZ]; rfl) (by rw [← hZ]; rfl) (by rw [← hZ]; rfl) (show Z.N[0]? = some a by rw [zN]; rfl) (.inl (v n1)) (dd a (by simp)) (dc a (by simp))) (by first | rfl | (rw [← hZ]; rfl))).imp fun D σ H h => h)
        · rw [← hZ]
          exact hc
        · rw [← hZ]
          exact hr'
      · exact pss_one (ps_set (X := Z.suite a' ((a', oe) :: pn)) znd (show Z.N[1]? = some fo by rw [zN]; rfl) (.inl (v n2)) (pe_var (show Z.N[2]? = some er by rw [zN]; rfl) (.inl (v n3)) (dd er (by simp)) (dc er (by simp))) (by first | rfl | (rw [← hZ]; rfl)) (.inr (v n2)))
    refine ⟨_, pss_cons s1 (pss_cons s2 (pss_one s3)), ?_⟩
    show ∃ f', _ ∧ _
    refine ⟨f, rfl, ι, h, rh, re, la, ?_⟩
    unfold caughtTo at m
    cases em : mk ρ0 h with
    | ok y h2 =>
      rw [em] at m
      exact fun ι' v H' x' r' _ => ⟨.non, rfl, m ι' .non H' x' r' .non⟩
    | err c fs h2 =>
      rw [em] at m
      dsimp only at m
      split at m
      case isFalse => exact m.elim
      rename_i hce
      intro ι' H' C d x' r' gC ex
      refine ⟨by rw [zK]; exact herr c hce C gC, fun a' na => ?_⟩
      refine ⟨.ref a', rfl, fun oe hz hfl na' => ⟨.ref a', rfl, ?_⟩⟩
      obtain ⟨vs, hvs⟩ := hfl
      exact m ι' _ _ (x'.trans (Ext.fresh na)) (r'.fresh na) ⟨a', C, oe, vs, rfl, gC, upd_same, hz.1, hvs, by rw [hz.2]; exact ex.2, ex.1⟩
    | bad =>
      rw [em] at m
      exact m.elim
  refine wpAny_call (codeAny_mono run fun r s' hq => ?_)
  cases r with
  | error e => exact passAt tk σ pins H s e s' I hq
  | ok fl =>
    cases fl with
    | ret u => exact I.after hq
    | next => exact False.elim hq
    | brk => exact False.elim hq
    | cont => exact False.elim hq
end
end Q

set_option Elab.async false
set_option maxRecDepth 100000
set_option linter.all false
set_option autoImplicit false
/-! QW: a comprehension whose block knows its maker's names; calls of the def that catches. -/
namespace Q
open PySem PySem.Spec PyProof.Rows L2 LamX

/-- the state at which a block of X begins: X's own invariant holds there, at σ -/
def BlkAt (X : Cx) (σ : L2.St) (s : Shared) (H : Hp) (fp : List Addr) : Prop := (∃ pins, Inv X pins σ H s) ∧ ∀ b ∈ fp, ∀ y c, X.env.cells.lookup y = some c → c ≠ b
section
variable {X : Cx} {elt tg iter : Expr} {ifs : List Expr} {scope : Scope} {own : List (Str × Nat)} {pos : Pos} {wi : TI} {g : TG} {tt : TT} {te : TE}
/-- one state of the block's loop -/
def BlkSt (Y : Cx) (σ : L2.St) (fp : List Addr) (tn : Nat → Heap → Prop) (V : Nat → Nat → Hp → Prop) (n : Nat) (s : Shared) : Prop := ∃ i H', Inv Y [] σ H' s ∧ tn i s.heap ∧ (∀ b ∈ fp, H' b = none) ∧ V i n H'
theorem lc_own {pins : List (Addr × Obj)} {s : Shared} {σ : L2.St} {H : Hp} {Q : VK} (hc : X.calm = true) (hN : X.N.Nodup) (I : Inv X pins σ H s) (hi : PI X tg iter wi) (ok : BlkOk X.N X.env.scope scope own)
    (hg : ∀ (s : Shared) (H : Hp) (C : Addr) (cl : List (Str × Addr)) (fp : List Addr), PG (X.blk s H scope (compEnvC scope cl C X.env) fp) tg g)
    (ht : ∀ (s : Shared) (H : Hp) (C : Addr) (cl : List (Str × Addr)) (fp : List Addr), BlkAt X σ s H fp → PTs (X.blk s H scope (compEnvC scope cl C X.env) fp) ifs tt)
    (he : ∀ (s : Shared) (H : Hp) (C : Addr) (cl : List (Str × Addr)) (fp : List Addr), BlkAt X σ s H fp → PE (X.blk s H scope (compEnvC scope cl C X.env) fp) elt te) (hs : ∀ x, foldedSetIterable iter X.env x = pure x)
    (h : tLc wi g tt te (own.map (·.2)) σ H Q) : wpAny (model X.prog X.w) X.A (eval (.ListComp elt [⟨tg, iter, ifs, 0⟩] scope pos) X.env) (EP X pins σ Q) X.xe s := by
  rw [eval_ListComp]
  have free : ∀ y ∈ scope.names, y.2 = .free → ∃ c, X.env.cells.lookup y.1 = some c := fun y hy e => (ok.free y hy e).elim (fun k => I.ok.has _ (.inl k)) fun k => I.ok.has _ (.inr k)
  refine wpAny_comprehension_free rfl hs (closure_ok free) ok.kind (fun y hy e => by rw [ok.uniq y hy, e]) (thn (hi.run pins s σ H _ I h) fun xv s1 hx => thn hx fun itv s2 h2 => ?_)
  obtain ⟨it, fp, tn, J, H2, rfl, I2, T, t0, f0, q⟩ := h2
  refine wpAny_newObj_type (newEnv_comp ?_) (by show 0 ≤ sizeLine; decide)
  obtain ⟨V, ⟨m0, v0⟩, turn⟩ := q s2.heap.objs.size (I2.hok.fresh (Nat.le_refl _))
  -- the list and the block's frame are laid
  obtain ⟨sL, eL⟩ : ∃ sL : Shared, sL = { s2 with heap := s2.heap.push { cls := .type "list", data := .seq ([] : List Value).toArray } } := ⟨_, rfl⟩
  obtain ⟨HL, eH⟩ : ∃ HL : Hp, HL = upd H2 s2.heap.objs.size (.lst []) := ⟨_, rfl⟩
  have IL : Inv X pins σ HL sL := by
    rw [eL, eH]
    exact I2.laid (t' := s2.toks) (fun b o e => Heap.get?_push_of_some _ e) (Nat.le_refl _) ⟨Nat.zero_le _, [], 0, .nil, Heap.get?_push_size _ rfl⟩
  have kL : ∀ b o, s2.heap.get? b = some o → sL.heap.get? b = some o := fun b o e => by
    rw [eL]
    exact Heap.get?_push_of_some _ e
  have lt2 : ∀ b ∈ fp, b < s2.heap.objs.size := fun b hb => by
    obtain ⟨o, e, _⟩ := T.obj _ _ t0 b hb
    exact Heap.lt_size e
  have fL : ∀ b ∈ fp, FpOk X pins HL b ∧ b < sL.heap.objs.size := fun b hb => by
    have l := lt2 b hb
    refine ⟨⟨?_, (f0 b hb).2⟩, by rw [eL]; show b < (s2.heap.push _).objs.size; rw [Heap.size_push]; exact Nat.lt_succ_of_lt l⟩
    rw [eH, upd_ne (Nat.ne_of_lt l)]
    exact (f0 b hb).1
  have at0 : BlkAt X σ sL HL fp := ⟨⟨pins, IL⟩, fun b hb y c e => (fL b hb).1.2.2.2.2.1 y c e⟩
  have IB := block_start IL ok hN fL
  have pg := hg sL HL sL.heap.objs.size (cellsFrom (sL.heap.objs.size + 1) scope.names (cloFrom X.env.cells scope.names [])) fp
  have pt := ht sL HL sL.heap.objs.size (cellsFrom (sL.heap.objs.size + 1) scope.names (cloFrom X.env.cells scope.names [])) fp at0
  have pe := he sL HL sL.heap.objs.size (cellsFrom (sL.heap.objs.size + 1) scope.names (cloFrom X.env.cells scope.names [])) fp at0
  rw [← eL]
  rw [← eH] at v0
  have nil0 : ∀ b ∈ fp, HL b = none := fun b hb => (fL b hb).1.1
  obtain ⟨ce, ece⟩ : ∃ ce : Env, ce = compEnvC scope (cellsFrom (sL.heap.objs.size + 1) scope.names (cloFrom X.env.cells scope.names [])) sL.heap.objs.size X.env := ⟨_, rfl⟩
  obtain ⟨sB, eB⟩ : ∃ sB : Shared, sB = { sL with heap := pushCells (sL.heap.push { cls := .type "dict", data := .dict #[] }) scope.names } := ⟨_, rfl⟩
  rw [← ece] at IB pg pt pe
  rw [← eB] at IB
  have tB : tn 0 sB.heap := T.keep _ _ _ t0 fun b _ o e => by
    rw [eB]
    exact pushCells_keeps _ _ _ _ (Heap.get?_push_of_some _ (kL b o e))
  have loc : ce.locals = sL.heap.objs.size := by rw [ece]; rfl
  show codeAny _ _ (.compStart (.ListComp elt [⟨tg, iter, ifs, 0⟩] scope pos) 0 (.ref it) (.ref s2.heap.objs.size) (compEnvC scope (cellsFrom (sL.heap.objs.size + 1) scope.names (cloFrom X.env.cells scope.names [])) sL.heap.objs.size X.env)) _ { sL with heap := pushCells (sL.heap.push { cls := .type "dict", data := .dict #[] }) scope.names }
  rw [← ece, ← eB]
  have fpY : ∀ {σ' : L2.St} {H' : Hp} {s' : Shared}, Inv (X.blk sL HL scope ce fp) [] σ' H' s' → (∀ b ∈ fp, H' b = none) → ∀ b ∈ fp, FpOk (X.blk sL HL scope ce fp) [] H' b := fun {σ' H' s'} J' hn b hb =>
    ⟨hn b hb, (J'.ok.exf b hb).1, J'.ok.exfs b hb, .inl hb, (J'.ok.exf b hb).2, fun p hp => absurd (show p ∈ ([] : List (Addr × Obj)) ++ [] from hp) (by simp)⟩
  have loop : codeAny (model X.prog X.w) X.A (.compLoop (.ListComp elt [⟨tg, iter, ifs, 0⟩] scope pos) 0 (.ref it) (.ref s2.heap.objs.size) ce) (compPost (model X.prog X.w) X.A X.xe none (EP X pins σ Q) (.ref s2.heap.objs.size) sL.heap.objs.size) sB := by
    refine compLoop_any (BlkSt (X.blk sL HL scope ce fp) (wipe σ (own.map (·.2))) fp tn V) ?_ m0 ⟨0, HL, IB, tB, nil0, v0⟩
    rintro n s5 ⟨i, H5, I5, t5, n5, v5⟩
    rcases turn i n H5 v5 with ⟨stop, qq⟩ | ⟨go, Nx, hNx, step⟩
    · refine thnF (T.done (X.blk sL HL scope ce fp) rfl rfl rfl hc i [] s5 _ H5 (fun _ _ => False) I5 (fpY I5 n5) t5 stop) fun r s6 hr => ?_
      obtain ⟨rfl, I6⟩ := hr
      -- the maker's frame again
      have I7 : Inv X pins σ H5 s6 := IL.call' (ch := fp) I6.os I6.base I6.hok I6.bare fun b hb => ⟨(fL b hb).1.2.2.2.1, (fL b hb).1.2.1, (fL b hb).1.2.2.2.2.1, (fL b hb).1.2.2.2.2.2⟩
      have nC : H5 sL.heap.objs.size = none := by rw [← loc]; exact I6.free
      obtain ⟨m, hn, _⟩ := I6.loc
      have hn : s6.heap.Ns ce.locals m := hn
      rw [loc] at hn
      obtain ⟨g0, g1, g2, g3, g4, g5⟩ := IL.fpOk (H' := H5) (Nat.le_refl _) nC
      exact ⟨m, hn, fun h'' sb => ⟨.ref s2.heap.objs.size, H5, I7.turned (t' := s6.toks) (fun b o hb e => (sb.2 b hb).trans e) g0 g1 g3 g4 g5, rfl, qq⟩⟩
    · refine thnF (T.item (X.blk sL HL scope ce fp) rfl rfl rfl hc i [] s5 _ H5 (fun _ _ => False) I5 (fpY I5 n5) t5 go) fun r s6 hr => ?_
      obtain ⟨u, rfl, h6⟩ := hr
      refine thnF h6 fun _ s7 h7 => ?_
      obtain ⟨x, H7, I7, r7, y7, t7, n7⟩ := h7
      have P7 := I7.pinned (fpY I7 n7) (T.obj _ _ t7)
      refine thnF (pg.run _ s7 _ H7 x u _ P7 r7 (step x H7 y7)) fun _ s8 h8 => ?_
      obtain ⟨σ8, H8, I8, w8, q8⟩ := h8
      refine thnF (pt.run _ s8 σ8 H8 _ I8 q8) fun b s9 h9 => ?_
      obtain ⟨H9, I9, q9⟩ := h9
      have next : ∀ {s' : Shared} {H' : Hp}, Inv (X.blk sL HL scope ce fp) ([] ++ pinsAt fp s7.heap) σ8 H' s' → Nx H' → ∃ m, m < n ∧ BlkSt (X.blk sL HL scope ce fp) (wipe σ (own.map (·.2))) fp tn V m s' := fun {s' H'} J' nx => by
        obtain ⟨m', lt, v'⟩ := hNx H' nx
        have still : ∀ b ∈ fp, ∀ o, s7.heap.get? b = some o → s'.heap.get? b = some o ∧ H' b = none := fun b hb o e =>
          ⟨(J'.pin (b, o) (List.mem_append_right _ (List.mem_append_right _ (mem_pinsAt hb e)))).1, (J'.pin (b, o) (List.mem_append_right _ (List.mem_append_right _ (mem_pinsAt hb e)))).2.1⟩
        refine ⟨m', lt, i + 1, H', (J'.unpinned (pins := [])).weak (by rw [← w8, wipe_length]) (fun j z e => by rw [← w8] at e; exact (wipe_some e).1), T.keep _ _ _ t7 fun b hb o e => (still b hb o e).1, fun b hb => ?_, v'⟩
        obtain ⟨o, e, _⟩ := T.obj _ _ t7 b hb
        exact (still b hb o e).2
      cases b with
      | false => exact next I9 (by simpa using q9)
      | true =>
        have q9 := (by simpa using q9 : te σ8 H9 _)
        refine thnF (pe.run _ s9 σ8 H9 _ I9 q9) fun z s10 h10 => ?_
        obtain ⟨yv, H10, I10, r10, acc, d10, z10, nx⟩ := h10
        exact app_ok (X := X.blk sL HL scope ce fp) I10 d10 z10 r10 fun s11 I11 => next I11 nx
  exact codeAny_compStart_list loop (T.self X.A 0 _ _ _ tB loop)
end
end Q

set_option Elab.async false
set_option maxRecDepth 100000
set_option linter.all false
set_option autoImplicit false
/-! QX: caught(..) as an expression, in the maker's frame and in its comprehensions. -/
namespace Q
open PySem PySem.Spec PyProof.Rows L2 LamX

/-- the names whose values bear no closure -/
def flatE (ρ : Env') : Env' := ρ.map fun o => match o with
  | some w => if w.flat = true then some w else none
  | none => none
theorem RlE.flat {G : Gd} {ι : Io} {ρ : Env'} {σ : L2.St} {H : Hp} (r : RlE G ι ρ σ H) : RlE G.bare ι (flatE ρ) σ H := ⟨by unfold flatE; rw [List.length_map]; exact r.len, fun i w hw => by
  unfold flatE at hw
  rw [List.getElem?_map] at hw
  cases e : ρ[i]? with
  | none => rw [e] at hw; cases hw
  | some o =>
    rw [e] at hw
    cases o with
    | none => cases hw
    | some w' =>
      have hw : (if w'.flat = true then some w' else none) = some w := Option.some.inj hw
      split at hw
      · rename_i f
        cases hw
        obtain ⟨v, h1, h2⟩ := r.get i w e
        exact ⟨v, h1, h2.down f⟩
      · cases hw⟩
/-- caught(m) -/
def eCaught (errs : List String) (bodies : List SemE) (m : SemE) : SemE := fun ρ h => (m ρ h).bind fun x h1 => match x with
  | .clo k => match bodies[k]? with
    | some mk => caughtTo errs (mk (flatE ρ) h1)
    | none => .bad
  | _ => .bad
def eCaughtB (errs : List String) (bodies : List SemE) (ρ0 : Env') (m : SemE) : SemE := fun ρ h => (m ρ h).bind fun x h1 => match x with
  | .clo k => match bodies[k]? with
    | some mk => caughtTo errs (mk ρ0 h1)
    | none => .bad
  | _ => .bad
/-- all the lambdas of a frame -/
def LamsOk (G : Gd) (X : Cx) (k : Nat) (ls : List LamI) (bodies : List SemE) : Prop := ∀ (n : Nat) (l : LamI), ls[n]? = some l → ∃ mk, bodies[n]? = some mk ∧ LamOk G X k l mk
theorem CellF.unX {cs : List (Str × Addr)} {N : List Str} {sc : Scope} {σ0 : L2.St} {H HZ : Hp} {h h' : Heap} {fs ex : List Addr} (F : CellF cs N sc σ0 H h) (u : Un fs ex H HZ h h') (nx : ∀ y c, cs.lookup y = some c → c ∉ ex) : CellF cs N sc σ0 HZ h' := by
  have keep : ∀ {c : Addr} {v : Option Value}, H c = none → c ∉ ex → h.IsCell c v → h'.IsCell c v := fun {c v} n hx ⟨o, ho, hd⟩ => by
    obtain ⟨sl, q⟩ := u.any ho n hx
    exact ⟨_, q, hd⟩
  refine ⟨F.inj, F.has, fun y c e => ?_, fun i y v h1 h2 h3 => ?_, F.len⟩
  · obtain ⟨n, v, z⟩ := F.cel y c e
    obtain ⟨o, ho, _⟩ := id z
    exact ⟨u.free c o ho n (nx y c e), v, keep n (nx y c e) z⟩
  · obtain ⟨w, c, r, e, z⟩ := F.val i y v h1 h2 h3
    exact ⟨w, c, r, e, keep (F.cel y c e).1 (nx y c e) z⟩
section
variable {G : Gd} {X : Cx} {k : Nat} {ls : List LamI} {bodies : List SemE} {errs : List String} {g : Addr} {e : Expr} {m : SemE} {p pos : Pos}
theorem je_caught {fn : String} (D : CaughtDef X (Str.ofString fn) g errs G.mg) (hr : Room (k + 2) X.A) (O : LamsOk G X k ls bodies) (hG : ∀ n ι H v, G.cl.p n ι H v → cloP (X.env.qual ++ "<lambda>") X.env.cells ls n H v) (hg : Gl X (Str.ofString fn)) (ha : JE G X m e) (hdb : (Str.ofString fn == ("__debug__" : Str)) = false := by decide)
    (hs : starEach [e] X.env = (false, eval e X.env) :: starEach [] X.env := by rfl) (hpl : (backTo pos (starEach [] X.env)).any (·.1) = false := by rfl) : JE G X (eCaught errs bodies m) (.Call (.Name (Str.ofString fn) p) [e] [] pos) := fun U t => by
  constructor
  intro pins s σ H Q I h
  refine wpAny_Call_Name_kw (ld_glob I hg D.gm ?_ hdb)
  have h' : rdE G U m σ H fun v H1 => ∃ (ι1 : Io) (ρ : Env') (n : Nat) (h1 : AH) (mk : SemE), RlH G ι1 h1 H1 ∧ RlE G ι1 ρ σ H1 ∧ G.cl.p n ι1 H1 v ∧ bodies[n]? = some mk ∧ (caughtTo errs (mk (flatE ρ) h1)).to (okP G ι1 H1 Q) (erP G ι1 H1 (xk U σ)) := by
    refine rd_bind (k := fun x ρ h1 => match x with
      | .clo k => match bodies[k]? with
        | some mk => caughtTo errs (mk (flatE ρ) h1)
        | none => .bad
      | _ => .bad) h fun ι ι1 ρ x h1 v H1 e1 r1 re1 v1 m1 => ?_
    split at m1
    · rename_i n
      split at m1
      · rename_i mk hk
        exact ⟨ι1, ρ, n, h1, mk, r1, re1, v1, hk, m1⟩
      · exact m1.elim
    · exact m1.elim
  have arg := (pa_cons ((ha U t)) pa_nil hs).run pos pins s σ H (fun vs H1 => ∃ v, vs = [v] ∧ ∃ (ι1 : Io) (ρ : Env') (n : Nat) (h1 : AH) (mk : SemE), RlH G ι1 h1 H1 ∧ RlE G ι1 ρ σ H1 ∧ G.cl.p n ι1 H1 v ∧ bodies[n]? = some mk ∧ (caughtTo errs (mk (flatE ρ) h1)).to (okP G ι1 H1 Q) (erP G ι1 H1 (xk U σ))) I (by
    obtain ⟨ι, ρ, h0, rh, re, q⟩ := h'
    exact ⟨ι, ρ, h0, rh, re, Out.to_mono q (fun x h1 z ι1 v H1 e1 r1 v1 => ⟨v, rfl, z ι1 v H1 e1 r1 v1⟩) fun _ _ _ z => z⟩)
  refine PySem.W.callWith_K (h₀ := X.base) I.ok.mod.kin D.kp (thn arg fun us s1 hv => ?_) hs hpl
  obtain ⟨vs, H1, I1, r, v, rfl, ι1, ρ, n, h1, mk, r1, re1, c1, hk, m1⟩ := hv
  obtain ⟨l, f, hl, rfl, la⟩ := hG n ι1 H1 v c1
  obtain ⟨mk', hk', ok⟩ := O n l hl
  rw [hk] at hk'
  cases hk'
  obtain ⟨u, rfl, ru⟩ := r.one
  cases ru
  exact ⟨I1.kIn, caught_run (X := X) (ρ0 := flatE ρ) (σ0 := σ) ⟨rfl, rfl, rfl, rfl, rfl⟩ D I1 t hr (cellF_of I1 ok.L) ok r1.bare re1.flat la (toBare m1)⟩
/-- .. within a comprehension of the maker: the frame's names are those at the block's start -/
theorem je_caughtB {fn : String} {ρ0 : Env'} {σ0 : L2.St} {s : Shared} {H : Hp} {scope : Scope} {env : Env} {fp : List Addr} (at0 : BlkAt X σ0 s H fp) (D : CaughtDef (X.blk s H scope env fp) (Str.ofString fn) g errs G.mg) (hr : Room (k + 2) X.A) (O : LamsOk G X k ls bodies)
    (hg : Gl (X.blk s H scope env fp) (Str.ofString fn)) (ha : JE (G.with (Clo.at (X.env.qual ++ "<lambda>") X.env.cells ls G ρ0 σ0)) (X.blk s H scope env fp) m e) (hdb : (Str.ofString fn == ("__debug__" : Str)) = false := by decide)
    (hs : starEach [e] env = (false, eval e env) :: starEach [] env := by rfl) (hpl : (backTo pos (starEach [] env)).any (·.1) = false := by rfl) : JE (G.with (Clo.at (X.env.qual ++ "<lambda>") X.env.cells ls G ρ0 σ0)) (X.blk s H scope env fp) (eCaughtB errs bodies ρ0 m) (.Call (.Name (Str.ofString fn) p) [e] [] pos) := fun U t => by
  constructor
  intro pins s' σ H' Q I h
  refine wpAny_Call_Name_kw (ld_glob I hg D.gm ?_ hdb)
  obtain ⟨G', eG⟩ : ∃ G' : Gd, G' = G.with (Clo.at (X.env.qual ++ "<lambda>") X.env.cells ls G ρ0 σ0) := ⟨_, rfl⟩
  have eB : G'.bare = G.bare := by rw [eG]; rfl
  rw [← eG] at ha h
  have h' : rdE G' U m σ H' fun v H1 => ∃ (ι1 : Io) (n : Nat) (h1 : AH) (mk : SemE), RlH G' ι1 h1 H1 ∧ G'.cl.p n ι1 H1 v ∧ bodies[n]? = some mk ∧ (caughtTo errs (mk ρ0 h1)).to (okP G' ι1 H1 Q) (erP G' ι1 H1 (xk U σ)) := by
    refine rd_bind (k := fun x ρ h1 => match x with
      | .clo k => match bodies[k]? with
        | some mk => caughtTo errs (mk ρ0 h1)
        | none => .bad
      | _ => .bad) h fun ι ι1 ρ x h1 v H1 e1 r1 re1 v1 m1 => ?_
    split at m1
    · rename_i n
      split at m1
      · rename_i mk hk
        exact ⟨ι1, n, h1, mk, r1, v1, hk, m1⟩
      · exact m1.elim
    · exact m1.elim
  have arg := (pa_cons ((ha U t)) pa_nil hs).run pos pins s' σ H' (fun vs H1 => ∃ v, vs = [v] ∧ ∃ (ι1 : Io) (n : Nat) (h1 : AH) (mk : SemE), RlH G' ι1 h1 H1 ∧ G'.cl.p n ι1 H1 v ∧ bodies[n]? = some mk ∧ (caughtTo errs (mk ρ0 h1)).to (okP G' ι1 H1 Q) (erP G' ι1 H1 (xk U σ))) I (by
    obtain ⟨ι, ρ, h0, rh, re, q⟩ := h'
    exact ⟨ι, ρ, h0, rh, re, Out.to_mono q (fun x h1 z ι1 v H1 e1 r1 v1 => ⟨v, rfl, z ι1 v H1 e1 r1 v1⟩) fun _ _ _ z => z⟩)
  refine PySem.W.callWith_K (h₀ := X.base) I.ok.mod.kin D.kp (thn arg fun us s1 hv => ?_) hs hpl
  obtain ⟨vs, H1, I1, r, v, rfl, ι1, n, h1, mk, r1, c1, hk, m1⟩ := hv
  rw [eG] at c1
  obtain ⟨⟨l, f, hl, rfl, la⟩, re0⟩ := c1
  obtain ⟨mk', hk', ok⟩ := O n l hl
  rw [hk] at hk'
  cases hk'
  obtain ⟨u, rfl, ru⟩ := r.one
  cases ru
  obtain ⟨⟨pins0, I0⟩, nfp⟩ := at0
  have F1 := (cellF_of I0 ok.L).unX I1.base fun y c e hx => nfp c hx y c e rfl
  have r1' := r1.bare
  have m1' := toBare m1
  rw [eB] at r1' m1'
  exact ⟨I1.kIn, caught_run (X := X) (B := X.blk s H scope env fp) (ρ0 := ρ0) (σ0 := σ0) ⟨rfl, rfl, rfl, rfl, rfl⟩ D I1 t hr F1 ok r1' re0 la m1'⟩
/-! ### the comprehension -/
noncomputable def eCompC (own : List Nat) (mi : SemI) (g : SemG) (mt : Env' → SemT) (me : Env' → SemE) : SemE := fun ρ h => (mi ρ h).bind fun p h1 => (compL p.2 g (mt (flatE ρ)) (me (flatE ρ)) (wipR ρ own) p.1 h1).bind fun ys h2 => .ofOpt ((allD ys).map fun ds => .d (.list ds)) h2
theorem RepW.at {q : Str} {cs : List (Str × Addr)} {ρ0 : Env'} {σ0 : L2.St} {ι : Io} {H : Hp} {w : W} {v : V} (hG : ∀ n ι H v, G.cl.p n ι H v → cloP q cs ls n H v) (re : RlE G.bare ι ρ0 σ0 H) (r : RepW G ι H w v) : RepW (G.with (Clo.at q cs ls G ρ0 σ0)) ι H w v := by
  cases w with
  | d x => exact r
  | ref i => exact r
  | exc c fs => exact r
  | clo k => exact ⟨hG k ι H v r, re⟩
  | clos ks =>
    obtain ⟨a, o, vs, h1, h2, h3⟩ := r
    exact ⟨a, o, vs, h1, h2, paired_mono (fun k v h => ⟨hG k ι H v h, re⟩) h3⟩
theorem compL_noerr {chk : AH → Prop} {g : SemG} {mt : SemT} {me : SemE} {ρ : Env'} {c : String} {fs : List (String × PyData)} {h2 : AH} : ∀ (ws : List W) (h1 : AH), compL chk g mt me ρ ws h1 ≠ .err c fs h2
  | [], h1, e => by
    unfold compL at e
    split at e <;> cases e
  | x :: xs, h1, e => by
    unfold compL at e
    split at e
    · split at e
      · split at e
        · split at e
          · split at e <;> cases e
          · cases e
        · exact compL_noerr xs _ e
        · cases e
      · cases e
    · cases e
theorem je_compC {elt tg iter : Expr} {ifs : List Expr} {scope : Scope} {own : List (Str × Nat)} {mi : SemI} {g : SemG} {sl : List Nat} {mt : Env' → SemT} {me : Env' → SemE} (hc : X.calm = true) (hN : X.N.Nodup) (hi : JI G X mi tg iter) (ok : BlkOk X.N X.env.scope scope own) (hsl : ∀ i ∈ sl, i ∈ own.map (·.2))
    (hG : ∀ n ι H v, G.cl.p n ι H v → cloP (X.env.qual ++ "<lambda>") X.env.cells ls n H v)
    (hg : ∃ r : TG, (∀ (s : Shared) (H : Hp) (C : Addr) (cl : List (Str × Addr)) (fp : List Addr), PG (X.blk s H scope (compEnvC scope cl C X.env) fp) tg r) ∧ ∀ (G : Gd) (ι : Io) (H : Hp) (x : W) (v : V) (ρ ρ' : Env') (σ : L2.St) (Q : L2.St → Hp → Prop), RlE G ι ρ σ H → RepW G ι H x v → g x ρ = some ρ' → (∀ σ', RlE G ι ρ' σ' H → Sets sl σ σ' → Q σ' H) → r v σ H Q)
    (ht : ∀ (ρ0 : Env') (σ0 : L2.St) (s : Shared) (H : Hp) (C : Addr) (cl : List (Str × Addr)) (fp : List Addr), BlkAt X σ0 s H fp → JTs (G.with (Clo.at (X.env.qual ++ "<lambda>") X.env.cells ls G ρ0 σ0)) (X.blk s H scope (compEnvC scope cl C X.env) fp) (mt ρ0) ifs)
    (he : ∀ (ρ0 : Env') (σ0 : L2.St) (s : Shared) (H : Hp) (C : Addr) (cl : List (Str × Addr)) (fp : List Addr), BlkAt X σ0 s H fp → JE (G.with (Clo.at (X.env.qual ++ "<lambda>") X.env.cells ls G ρ0 σ0)) (X.blk s H scope (compEnvC scope cl C X.env) fp) (me ρ0) elt) (hs : ∀ x, foldedSetIterable iter X.env x = pure x := by intro _; rfl) :
    JE G X (eCompC (own.map (·.2)) mi g mt me) (.ListComp elt [⟨tg, iter, ifs, 0⟩] scope pos) := fun U t => by
  obtain ⟨r, pg, kg⟩ := hg
  have P : PE X (.ListComp elt [⟨tg, iter, ifs, 0⟩] scope pos) (fun σ H Q => ∃ ρ0 : Env', tLc (rdI G U mi) r (rdT (G.with (Clo.at (X.env.qual ++ "<lambda>") X.env.cells ls G ρ0 σ)) U0 (mt ρ0)) (rdE (G.with (Clo.at (X.env.qual ++ "<lambda>") X.env.cells ls G ρ0 σ)) U0 (me ρ0)) (own.map (·.2)) σ H Q) :=
    ⟨fun pins s σ H Q I ⟨ρ0, h⟩ => lc_own hc hN I (hi U t) ok pg (fun s H C cl fp a => ht ρ0 σ s H C cl fp a U0 L2.takes0) (fun s H C cl fp a => he ρ0 σ s H C cl fp a U0 L2.takes0) hs h⟩
  refine (pe_frz P).imp fun σ H Q h => ?_
  obtain ⟨ι, ρ, h0, rh, re, q⟩ := h
  refine ⟨flatE ρ, ?_⟩
  unfold eCompC at q
  rw [to_bind] at q
  refine ⟨ι, ρ, h0, rh, re, Out.to_mono q (fun p h1 z ι1 H1 J e1 r1 jok hl D nD => ?_) fun _ _ _ z => z⟩
  obtain ⟨ws, chk⟩ := p
  dsimp only at z
  have re1 := re.mono e1
  have re0 : RlE G.bare ι1 (flatE ρ) σ H1 := re1.flat
  obtain ⟨G', eG⟩ : ∃ G' : Gd, G' = G.with (Clo.at (X.env.qual ++ "<lambda>") X.env.cells ls G (flatE ρ) σ) := ⟨_, rfl⟩
  rw [← eG]
  have to' : ∀ {ι : Io} {h : AH} {H : Hp}, RlH G ι h H → RlH G' ι h H := fun r => by
    have := r.bare
    rw [show G.bare = G'.bare by rw [eG]; rfl] at this
    exact this.full
  have of' : ∀ {ι : Io} {h : AH} {H : Hp}, RlH G' ι h H → RlH G ι h H := fun r => by
    have := r.bare
    rw [show G'.bare = G.bare by rw [eG]; rfl] at this
    exact this.full
  have up' : ∀ {ι : Io} {H : Hp} {w : W} {v : V}, Ext ι1 H1 ι H → RepW G ι H w v → RepW G' ι H w v := fun x r => by
    rw [eG]
    exact r.at hG (re0.mono x)
  cases ec : compL chk g (mt (flatE ρ)) (me (flatE ρ)) (wipR ρ (own.map (·.2))) ws h1 with
  | bad => rw [ec] at z; exact z.elim
  | err c fs h2 => exact absurd ec (compL_noerr ws h1)
  | ok ys h2 =>
    rw [ec] at z
    obtain ⟨w, ew, k⟩ := to_ofOpt z
    cases hd : allD ys with
    | none => rw [hd] at ew; cases ew
    | some ds =>
      rw [hd] at ew
      cases ew
      have jok' : ItOk G' J ι1 H1 ws chk := ⟨fun ι h H i x r c hi => jok.go ι h H i x (of' r) c hi, fun ι h H i v H' x r c hi y => by
        obtain ⟨x1, x2, w, x3, x4⟩ := jok.yld ι h H i v H' x (of' r) c hi y
        exact ⟨x1, to' x2, w, x3, up' (x.trans x1) x4⟩, fun ι h H x r c => jok.stop ι h H x (of' r) c⟩
      have re' : RlE G' ι1 ρ σ H1 := ⟨re1.len, fun i w hw => by
        obtain ⟨v, q1, q2⟩ := re1.get i w hw
        exact ⟨v, q1, up' .refl q2⟩⟩
      refine comp_core (G := G') (U := U0) jok' hl (to' r1) re' hsl nD (kg G') (fun _ _ _ _ z => z) ec fun ι' H' vs e2 r2 hD rv nj => .inr ⟨D, vs, rfl, hD, fun o => ?_⟩
      have rd : RepDs G.K H' vs ds := by
        have := allD_rep hd rv
        rw [show G'.K = G.K by rw [eG]; rfl] at this
        exact this
      have lo : Loose H' D := loose_lst hD
      have no : ∀ ps, frzO vs o ≠ .tbl ps := fun ps z => by unfold frzO at z; cases z
      exact k ι' _ _ ((e1.trans e2).after (e1.none_back nD) lo no) ((of' r2).off nj lo) (.lst upd_same (RepDs.mono (Stb.write lo) _ _ rd))
end
end Q

set_option Elab.async false
set_option maxRecDepth 100000
set_option linter.all false
set_option autoImplicit false
/-! QY: defs with lambdas, facts of the text, the end. -/
namespace Q
open PySem PySem.Spec PyProof.Rows L2 LamX

theorem hu70 {k : Nat} {A : Around} (r : Room k A) : A.units + 70 < cLine := by
  have := r.un
  omega
/-! ### defs -/
/-- a def that makes lambdas: what it returns bears none -/
def mkFnL (n : Nat) (b : SemS) : Fn := fun ws h => match b (ws.map some ++ List.replicate (n - ws.length) none) h with
  | .nx _ h' => .ok (.d .none) h'
  | .rt x h' => if x.flat = true then .ok x h' else .bad
  | .err c fs h' => .err c fs h'
  | _ => .bad
theorem start_get {G : Gd} {ι : Io} {H : Hp} {N : List Str} {ws : List W} {vs : List V} {n : Nat} (hn : N.length = n) (r : RepWs G ι H ws vs) : RlE G ι (ws.map some ++ List.replicate (n - ws.length) none) (L2.start N vs) H := by
  refine ⟨?_, fun i y hy => ?_⟩
  · unfold L2.start
    rw [List.length_append, List.length_append, List.length_map, List.length_map, List.length_replicate, List.length_replicate, r.length, hn]
  · have hi : i < ws.length := by
      by_cases hi : i < ws.length
      · exact hi
      · rw [List.getElem?_append_right (by simpa using hi), List.getElem?_replicate] at hy
        split at hy <;> cases hy
    rw [List.getElem?_append_left (by simpa using hi), List.getElem?_map] at hy
    cases e : ws[i]? with
    | none => rw [e] at hy; cases hy
    | some z =>
      rw [e] at hy
      cases hy
      obtain ⟨v, e1, r1⟩ := Paired.get1 r e
      refine ⟨v, ?_, r1⟩
      unfold L2.start
      rw [List.getElem?_append_left (by rw [List.length_map, ← r.length]; exact hi), List.getElem?_map, e1]
      rfl
theorem RlE.up {G : Gd} {ι : Io} {ρ : Env'} {σ : L2.St} {H : Hp} (r : RlE G.bare ι ρ σ H) : RlE G ι ρ σ H := ⟨r.len, fun i w hw => by
  obtain ⟨v, h1, h2⟩ := r.get i w hw
  exact ⟨v, h1, h2.up⟩⟩
/-- a def that makes lambdas; c its code object -/
theorem fn_okL {G : Gd} {P : Program} {w : World} {K : PySem.W.Frag} {mg : Str → Option Value} {base : Heap} {x qual : Str} {st : Stmt} {f c : Addr} {fd : FuncData} {N ps : List Str} {k np n : Nat} {b : SemS} {ls : List LamI} (F : L2.Fun K x qual st f fd) (hcode : fd.code = .ref c) (S : FnScope N ps (defScope st)) (hn : N.length = n) (hp : ps.length = np)
    (hbody : ∀ (A : Around) (outer : List Env) (s : Shared) (H : Hp) (E : XK), Room k (A.deeper (envOfC qual (defScope st) s.heap.objs.size f (.ref c))) →
      JSs (G.with (Clo.of ((envOfC qual (defScope st) s.heap.objs.size f (.ref c)).qual ++ "<lambda>") (envOfC qual (defScope st) s.heap.objs.size f (.ref c)).cells ls)) (cxOf (L2.CX P w) P w K mg base N qual (defScope st) f (.ref c) A outer s H E) b (defBody st)) : FnOk P w K mg base (L2.CX P w) (k + 1) f fd ps (spOf G np (mkFnL n b)) := by
  obtain ⟨oc, od, kV, doc, pm, an, cdv, ct, osl, rfl, lk, hcd⟩ := F.ex
  cases (show cdv = .ref c from hcode)
  refine fn_of lk hcd S (fun vs H Q E h => by rw [hp]; exact h.1) fun A outer s H vs Q E hr h => ?_
  obtain ⟨hl, ι, h0, ws, rh, rw0, q⟩ := h
  refine ⟨_, hbody A outer s H E hr (fun c d _ H' => E c d H') (takes_of rfl rfl rfl rfl), ι, ws.map some ++ List.replicate (n - ws.length) none, h0, RlH.full (G := G.with _) rh, RlE.up (G := G.with _) (start_get hn rw0), ?_⟩
  unfold mkFnL at q
  cases e : b (ws.map some ++ List.replicate (n - ws.length) none) h0 with
  | nx ρ' h' =>
    rw [e] at q
    exact fun ι' σ' H' e1 r1 _ => q ι' .non H' e1 r1.bare .non
  | rt y h' =>
    rw [e] at q
    dsimp only at q
    split at q
    · rename_i hf
      exact fun ι' v H' e1 r1 v1 => q ι' v H' e1 r1.bare (v1.down hf)
    · exact q.elim
  | err c fs h' =>
    rw [e] at q
    exact fun ι' σ' H' C d e1 r1 g x1 => q ι' H' C d e1 r1.bare g x1
  | bk ρ' h' => rw [e] at q; exact q.elim
  | ct ρ' h' => rw [e] at q; exact q.elim
  | bad => rw [e] at q; exact q.elim
/-- no promise: any def keeps it -/
theorem fn_bad {G : Gd} {P : Program} {w : World} {K : PySem.W.Frag} {mg : Str → Option Value} {base : Heap} {x qual : Str} {st : Stmt} {f : Addr} {fd : FuncData} {N ps : List Str} {k np : Nat} (F : L2.Fun K x qual st f fd) (S : FnScope N ps (defScope st)) (hp : ps.length = np) : FnOk P w K mg base (L2.CX P w) (k + 1) f fd ps (spOf G np (fun _ _ => .bad)) :=
  F.okX S (fun vs H Q E h => by rw [hp]; exact h.1) fun cdv A outer s H vs Q E hr h => by
    obtain ⟨_, _, _, _, _, _, q⟩ := h
    exact q.elim
theorem FnOk.lift {P : Program} {w : World} {K : PySem.W.Frag} {mg : Str → Option Value} {base : Heap} {CX : CXT} {j k : Nat} {f : Addr} {fd : FuncData} {ps : List Str} {sp : Sp} (F : FnOk P w K mg base CX j f fd ps sp) (h : j ≤ k) : FnOk P w K mg base CX k f fd ps sp := ⟨F.len, fun A outer s H args us vs Q E hr => F.run A outer s H args us vs Q E (hr.mono h)⟩
/-! ### what a def comes to, over the ground -/
def FnP (G : Gd) (P : Program) (base : Heap) (k : Nat) (x : String) (np : Nat) (fn : Fn) : Prop := ∃ (f : Addr) (fd : FuncData) (ps : List Str), G.mg (Str.ofString x) = some (.ref f) ∧ PySem.W.keepIn G.K (.ref f) = true ∧ L2.Binds G.K fd ps [] ∧ FnOk P G.w G.K G.mg base (L2.CX P G.w) k f fd ps (spOf G np fn)
def MtP (G : Gd) (P : Program) (base : Heap) (k : Nat) (C : Addr) (m : String) (np : Nat) (fn : Fn) : Prop := ∃ (f : Addr) (fd : FuncData) (ps : List Str), Meth G.K C (Str.ofString m) f ∧ L2.Binds G.K fd ps [] ∧ FnOk P G.w G.K G.mg base (L2.CX P G.w) k f fd ps (spOf G np fn)
def MkP (G : Gd) (P : Program) (base : Heap) (k : Nat) (C : Addr) (np : Nat) (fn : Fn) : Prop := ∃ (f : Addr) (fd : FuncData) (ps : List Str), Mk G.K C f ∧ L2.Binds G.K fd ps [] ∧ FnOk P G.w G.K G.mg base (L2.CX P G.w) k f fd ps (spOf G np fn)
theorem spOf_bare {G : Gd} {np : Nat} {fn : Fn} : spOf G.bare np fn = spOf G np fn := rfl
/-- a context over the ground -/
structure Over (G : Gd) (P : Program) (base : Heap) (X : Cx) : Prop where
  p : X.prog = P
  w : X.w = G.w
  K : X.K = G.K
  mg : X.mg = G.mg
  b : X.base = base
section
variable {G : Gd} {P : Program} {base : Heap} {X : Cx} {k np : Nat} {x m : String} {C : Addr} {fn : Fn}
theorem FnP.at (h : FnP G P base k x np fn) (o : Over G P base X) {G' : Gd} (g : G'.bare = G.bare) : FnX G' X k x np fn := by
  obtain ⟨f, fd, ps, h1, h2, h3, h4⟩ := h
  refine ⟨f, fd, ps, by rw [o.mg]; exact h1, by rw [o.K]; exact h2, by rw [o.K]; exact h3, ?_⟩
  rw [o.p, o.w, o.K, o.mg, o.b, ← spOf_bare, g]
  exact h4
theorem MtP.at (h : MtP G P base k C m np fn) (o : Over G P base X) {G' : Gd} (g : G'.bare = G.bare) : MtX G' X k C m np fn := by
  obtain ⟨f, fd, ps, h1, h3, h4⟩ := h
  refine ⟨f, fd, ps, by rw [o.K]; exact h1, by rw [o.K]; exact h3, ?_⟩
  rw [o.p, o.w, o.K, o.mg, o.b, ← spOf_bare, g]
  exact h4
theorem MkP.at {c : String} (h : MkP G P base k C np fn) (gc : G.mg (Str.ofString c) = some (.ref C)) (o : Over G P base X) {G' : Gd} (g : G'.bare = G.bare) : MkX G' X k c C np fn := by
  obtain ⟨f, fd, ps, h1, h3, h4⟩ := h
  refine ⟨by rw [o.mg]; exact gc, f, fd, ps, by rw [o.K]; exact h1, by rw [o.K]; exact h3, ?_⟩
  rw [o.p, o.w, o.K, o.mg, o.b, ← spOf_bare, g]
  exact h4
end
/-! ### facts of the text -/
def excCB (K : PySem.W.Frag) (C : Addr) : Bool :=
  He.eqO (PySem.W.findIn K (.ref C) "__getattribute__") (some (some (.builtin "BaseException.__getattribute__"))) && (He.eqO (PySem.W.findIn K (.ref C) "__getattr__") (some none) && (decide (PySem.W.subIn K (.ref C) (.type "BaseException") = some true) && (PySem.W.hasDictIn K C &&
    (He.eqO (PySem.W.findIn K (.ref C) "__class__") (some (some (.builtin "object.__class__"))) && (He.eqO (PySem.W.specialIn K (.builtin "object.__class__") "__get__") (some (some (.builtin "getset_descriptor.__get__"))) && (decide (PySem.W.takesIn K (.builtin "object.__class__") = some true) && decide (PySem.W.mroIn K C (.type "object") = some true)))))))
theorem excCB_ok {K : PySem.W.Frag} {C : Addr} (h : excCB K C = true) : ExcC K C := by
  unfold excCB at h
  simp only [Bool.and_eq_true, decide_eq_true_eq] at h
  obtain ⟨h1, h2, h3, h4, h5, h6, h7, h8⟩ := h
  exact ⟨He.eqO_ok h1, He.eqO_ok h2, h3, h4, He.eqO_ok h5, He.eqO_ok h6, h7, h8⟩
def insCB (K : PySem.W.Frag) (C : Addr) : Bool :=
  PySem.W.plainGet K C Str.empty && (PySem.W.hasDictIn K C && (PySem.W.plainOver K C && (He.eqO (PySem.W.findIn K (.ref C) "__setattr__") (some (some (.builtin "object.__setattr__"))) &&
    (He.eqO (PySem.W.findIn K (.ref C) "__class__") (some (some (.builtin "object.__class__"))) && (He.eqO (PySem.W.specialIn K (.builtin "object.__class__") "__get__") (some (some (.builtin "getset_descriptor.__get__"))) && (decide (PySem.W.takesIn K (.builtin "object.__class__") = some true) &&
      (decide (PySem.W.mroIn K C (.type "object") = some true) && decide (PySem.W.kitOne K (.ref C) (.ref C) = some true))))))))
theorem insCB_ok {K : PySem.W.Frag} {C : Addr} (h : insCB K C = true) : C8.InsC K C := by
  unfold insCB at h
  simp only [Bool.and_eq_true, decide_eq_true_eq] at h
  obtain ⟨h1, h2, h3, h4, h5, h6, h7, h8, h9⟩ := h
  exact ⟨⟨h1, h2, h3, He.eqO_ok h4⟩, He.eqO_ok h5, He.eqO_ok h6, h7, h8, h9⟩
/-- the classes of a text: os of instances, es of errors, subs: which comes of which -/
structure ClsT where
  os : List String
  es : List String
  subs : List (String × String)
def ClsT.all (c : ClsT) : List String := c.os ++ c.es
def ClsT.sub (c : ClsT) (a b : String) : Bool := a == b || c.subs.contains (a, b)
def gaS (K : PySem.W.Frag) (x : String) : Addr := He.ga K (Str.ofString x)
def ClsT.ok (c : ClsT) (K : PySem.W.Frag) : Bool := (c.all.all fun x => He.eqO (PySem.W.nsIn K mainGlobals (Str.ofString x)) (some (some (.ref (gaS K x))))) && ((c.os.all fun x => insCB K (gaS K x)) && ((c.es.all fun x => excCB K (gaS K x)) &&
  ((c.all.all fun x => c.all.all fun y => decide (PySem.W.kitOne K (.ref (gaS K x)) (.ref (gaS K y)) = some (c.sub x y))) && ((c.all.all fun x => basics.all fun t => decide (PySem.W.kitOne K (.ref (gaS K x)) (.type t) = some false)) && c.all.all fun x => basics.all fun t => decide (PySem.W.kitOne K (.type t) (.ref (gaS K x)) = some false)))))
structure ClsF (c : ClsT) (K : PySem.W.Frag) (mg : Str → Option Value) : Prop where
  gm : ∀ x ∈ c.all, mg (Str.ofString x) = some (.ref (gaS K x))
  ins : ∀ x ∈ c.os, C8.InsC K (gaS K x)
  exc : ∀ x ∈ c.es, ExcC K (gaS K x)
  kit : ∀ x ∈ c.all, ∀ y ∈ c.all, PySem.W.kitOne K (.ref (gaS K x)) (.ref (gaS K y)) = some (c.sub x y)
  kitB : ∀ x ∈ c.all, ∀ t ∈ basics, PySem.W.kitOne K (.ref (gaS K x)) (.type t) = some false
  kitC : ∀ x ∈ c.all, ∀ t ∈ basics, PySem.W.kitOne K (.type t) (.ref (gaS K x)) = some false
theorem ClsT.ok_ok {c : ClsT} {K : PySem.W.Frag} {h : Heap} {mg : Str → Option Value} (X : K.In h) (G : h.Ns mainGlobals mg) (e : c.ok K = true) : ClsF c K mg := by
  unfold ClsT.ok at e
  simp only [Bool.and_eq_true, List.all_eq_true, decide_eq_true_eq] at e
  obtain ⟨h1, h2, h3, h4, h5, h6⟩ := e
  exact ⟨fun x hx => PySem.W.mg_of X G (He.eqO_ok (h1 x hx)), fun x hx => insCB_ok (h2 x hx), fun x hx => excCB_ok (h3 x hx), h4, h5, h6⟩
def isiB (c : ClsT) (T : String) : Tn → Option Bool
  | .b s => subB s T
  | .o x => if x ∈ c.os then some false else none
  | .e x => if x ∈ c.es then some false else none
def isiC (c : ClsT) (T : String) : Tn → Option Bool
  | .b s => if s ∈ basics then some false else none
  | .o x => if x ∈ c.os then some (c.sub x T) else none
  | .e x => if x ∈ c.es then some (c.sub x T) else none
theorem isiB_ok {c : ClsT} {G : Gd} {X : Cx} {T : String} (hK : X.K = G.K) (F : ClsF c G.K G.mg) (hT : T ∈ basics) : IsiOk G X (.type T) (isiB c T) where
  b := fun s r hs e => by
    rw [hK]
    have key := List.all_eq_true.mp (List.all_eq_true.mp subB_kit s hs) T hT
    have key := of_decide_eq_true key
    have e : subB s T = some r := e
    rw [← key] at e
    exact kit_ty e
  o := fun x r e => by
    have e : (if x ∈ c.os then some false else none) = some r := e
    split at e
    · rename_i hx
      cases e
      have hx' : x ∈ c.all := List.mem_append_left _ hx
      exact ⟨gaS G.K x, F.gm x hx', by rw [hK]; exact F.kitB x hx' T hT, by rw [hK]; exact F.ins x hx⟩
    · cases e
  e := fun x r e => by
    have e : (if x ∈ c.es then some false else none) = some r := e
    split at e
    · rename_i hx
      cases e
      have hx' : x ∈ c.all := List.mem_append_right _ hx
      exact ⟨gaS G.K x, F.gm x hx', by rw [hK]; exact F.kitB x hx' T hT, by rw [hK]; exact F.exc x hx⟩
    · cases e
theorem isiC_ok {c : ClsT} {G : Gd} {X : Cx} {T : String} (hK : X.K = G.K) (F : ClsF c G.K G.mg) (hT : T ∈ c.all) : IsiOk G X (.ref (gaS G.K T)) (isiC c T) where
  b := fun s r hs e => by
    have e : (if s ∈ basics then some false else none) = some r := e
    rw [if_pos hs] at e
    cases e
    rw [hK]
    exact F.kitC T hT s hs
  o := fun x r e => by
    have e : (if x ∈ c.os then some (c.sub x T) else none) = some r := e
    split at e
    · rename_i hx
      cases e
      have hx' : x ∈ c.all := List.mem_append_left _ hx
      exact ⟨gaS G.K x, F.gm x hx', by rw [hK]; exact F.kit x hx' T hT, by rw [hK]; exact F.ins x hx⟩
    · cases e
  e := fun x r e => by
    have e : (if x ∈ c.es then some (c.sub x T) else none) = some r := e
    split at e
    · rename_i hx
      cases e
      have hx' : x ∈ c.all := List.mem_append_right _ hx
      exact ⟨gaS G.K x, F.gm x hx', by rw [hK]; exact F.kit x hx' T hT, by rw [hK]; exact F.exc x hx⟩
    · cases e
/-! ### the text -/
def dOf (at_ : Str × Option Str) (name qual : Str) (st : Stmt) : He.FnD := ⟨at_, name, qual, defArgs st, defBody st, defScope st⟩
/-- the code object of a def, its table -/
def codeA (K : PySem.W.Frag) (p : Str × Option Str) : Addr := match K.lookup (He.fAd K p) with
  | some ⟨_, _, .func fd, _⟩ => (match fd.code with
    | .ref c => c
    | _ => 0)
  | _ => 0
def tabA (K : PySem.W.Frag) (p : Str × Option Str) : Addr := match K.lookup (codeA K p) with
  | some ⟨_, _, .fields vs, _⟩ => (match (vs[11]? : Option Value) with
    | some (.ref P) => P
    | _ => 0)
  | _ => 0
def codeB (K : PySem.W.Frag) (p : Str × Option Str) : Bool := match K.lookup (He.fAd K p) with
  | some ⟨_, _, .func fd, _⟩ => (match fd.code with
    | .ref c => decide (c = codeA K p)
    | _ => false)
  | _ => false
/-- what is known of the text: facts, defs, classes, the defs that make lambdas (with the names of those), names that stay out of the written part -/
structure TxtD where
  fa : List He.Fa
  fn : List He.FnD
  cl : ClsT
  lam : List ((Str × Option Str) × Str)
def TxtD.tabs (d : TxtD) (K : PySem.W.Frag) : List (Addr × Str) := d.lam.map fun p => (tabA K p.1, p.2)
def TxtD.cs (d : TxtD) (K : PySem.W.Frag) : List (Addr × Addr) := d.lam.map fun p => (codeA K p.1, tabA K p.1)
def TxtD.ok (d : TxtD) (K : PySem.W.Frag) : Bool := d.cl.ok K && ((d.fn.all fun f => PySem.W.keepIn K (.ref (He.fAd K f.at_))) && ((d.lam.all fun p => codeB K p.1 && PySem.W.codeHdIn K (codeA K p.1) (tabA K p.1)) && ((d.lam.all fun p => (K.lookup (tabA K p.1)).isNone) &&
  ((d.lam.all fun p => d.lam.all fun q => !decide (tabA K p.1 = tabA K q.1) || decide (p.2 = q.2)) && K.all fun p => p.2.cls != .type "list"))))
structure Txt (d : TxtD) (K : PySem.W.Frag) (mg : Str → Option Value) (h : Heap) : Prop where
  X : K.In h
  G : h.Ns mainGlobals mg
  c : He.SaysE d.fa d.fn K
  ok : d.ok K = true
section
variable {d : TxtD} {K : PySem.W.Frag} {mg : Str → Option Value} {h : Heap}
theorem Txt.ands (T : Txt d K mg h) : d.cl.ok K = true ∧ (∀ f ∈ d.fn, PySem.W.keepIn K (.ref (He.fAd K f.at_)) = true) ∧ (∀ p ∈ d.lam, codeB K p.1 = true ∧ PySem.W.codeHdIn K (codeA K p.1) (tabA K p.1) = true) ∧ (∀ p ∈ d.lam, K.lookup (tabA K p.1) = none) ∧
    (∀ p ∈ d.lam, ∀ q ∈ d.lam, tabA K p.1 = tabA K q.1 → p.2 = q.2) ∧ ∀ p ∈ K, p.2.cls ≠ .type "list" := by
  have e := T.ok
  unfold TxtD.ok at e
  simp only [Bool.and_eq_true, List.all_eq_true, Option.isNone_iff_eq_none, Bool.or_eq_true, Bool.not_eq_true', decide_eq_false_iff_not, decide_eq_true_eq, bne_iff_ne, ne_eq] at e
  obtain ⟨h1, h2, h3, h4, h5, h6⟩ := e
  exact ⟨h1, h2, h3, h4, fun p hp q hq e => (h5 p hp q hq).resolve_left fun z => z e, fun p hp => h6 p hp⟩
theorem Txt.cls (T : Txt d K mg h) : ClsF d.cl K mg := ClsT.ok_ok T.X T.G T.ands.1
theorem Txt.free (T : Txt d K mg h) (i : Nat) {x : Str} (e : d.fa[i]? = some (.free x) := by rfl) : mg x = none := He.free_ok T.X T.G (T.c.fact i e)
theorem Txt.glo (T : Txt d K mg h) (i : Nat) {x : Str} (e : d.fa[i]? = some (.glo x) := by rfl) : mg x = some (.ref (He.ga K x)) := He.glo_ok T.X T.G (T.c.fact i e)
theorem Txt.fun_ (T : Txt d K mg h) (i : Nat) {at_ : Str × Option Str} {name qual : Str} {st : Stmt} (e : d.fn[i]? = some (dOf at_ name qual st) := by rfl) : ∃ fd, L2.Fun K name qual st (He.fAd K at_) fd := by
  obtain ⟨oc, od, osl, kV, doc, pm, an, cdv, ct, l, c⟩ := T.c.def_ i e
  exact ⟨_, fun_mk l c (T.ands.2.1 _ (List.mem_of_getElem? e))⟩
theorem Txt.code (T : Txt d K mg h) {at_ : Str × Option Str} {name qual q : Str} {st : Stmt} {fd : FuncData} (F : L2.Fun K name qual st (He.fAd K at_) fd) (hm : (at_, q) ∈ d.lam) : fd.code = .ref (codeA K at_) := by
  obtain ⟨oc, od, kV, doc, pm, an, cdv, ct, osl, _, lk, _⟩ := F.ex
  have e := (T.ands.2.2.1 _ hm).1
  unfold codeB at e
  dsimp only at e
  rw [lk] at e
  dsimp only at e
  split at e
  · rename_i c hc
    rw [hc, of_decide_eq_true e]
  · cases e
theorem Txt.tabU (T : Txt d K mg h) {p : (Str × Option Str) × Str} (hp : p ∈ d.lam) : ∀ q ∈ d.tabs K, q.1 = tabA K p.1 → q.2 = p.2 := fun q hq e => by
  obtain ⟨r, hr, rfl⟩ := List.mem_map.mp hq
  exact T.ands.2.2.2.2.1 r hr p hp e
theorem Txt.tabM (T : Txt d K mg h) {p : (Str × Option Str) × Str} (hp : p ∈ d.lam) : (tabA K p.1, p.2) ∈ d.tabs K := List.mem_map.mpr ⟨p, hp, rfl⟩
theorem Txt.csM (T : Txt d K mg h) {p : (Str × Option Str) × Str} (hp : p ∈ d.lam) : (codeA K p.1, tabA K p.1) ∈ d.cs K := List.mem_map.mpr ⟨p, hp, rfl⟩
end
end Q

set_option Elab.async false
set_option maxRecDepth 100000
set_option linter.all false
set_option autoImplicit false
/-! QZ: the last words for the printed texts; the end. -/
namespace Q
open PySem PySem.Spec PyProof.Rows L2 LamX

section
variable {G : Gd} {X : Cx} {pos : Pos}
theorem je_globI' {x : Str} {i : Int} (hg : Gl X x) (hm : ∃ t, X.mg x = some (.int i t)) (hd : (x == ("__debug__" : Str)) = false := by decide) : JE G X (eC (.int i)) (.Name x pos) := by
  obtain ⟨t, hm⟩ := hm
  exact je_globI hg hm ⟨t, rfl⟩ hd
/-- a name as the target, whatever the ground -/
theorem jgba_name {scope : Scope} {i : Nat} {x : Str} (hN : X.N.Nodup) (hi : X.N[i]? = some x) (hx : ∀ (s : Shared) (H : Hp) (C : Addr) (cl : List (Str × Addr)) (fp : List Addr), Loc (X.blk s H scope (compEnvC scope cl C X.env) fp).env.scope x)
    (hf : ∀ (s : Shared) (H : Hp) (C : Addr) (cl : List (Str × Addr)) (fp : List Addr), (X.blk s H scope (compEnvC scope cl C X.env) fp).fn x = true ∨ (X.blk s H scope (compEnvC scope cl C X.env) fp).env.scope.names.lookup x = some .local) :
    ∃ r : TG, (∀ (s : Shared) (H : Hp) (C : Addr) (cl : List (Str × Addr)) (fp : List Addr), PG (X.blk s H scope (compEnvC scope cl C X.env) fp) (.Name x pos) r) ∧ ∀ (G : Gd) (ι : Io) (H : Hp) (y : W) (v : V) (ρ ρ' : Env') (σ : L2.St) (Q : L2.St → Hp → Prop), RlE G ι ρ σ H → RepW G ι H y v → gN i y ρ = some ρ' → (∀ σ', RlE G ι ρ' σ' H → Sets [i] σ σ' → Q σ' H) → r v σ H Q :=
  ⟨gName i, fun s H C cl fp => pg_name (X := X.blk s H scope (compEnvC scope cl C X.env) fp) hN hi (hx s H C cl fp) (hf s H C cl fp), fun G ι H y v ρ ρ' σ Q re rv e k => by
    cases e
    exact k _ (re.set rv) (Sets.one σ i _)⟩
/-- raise X('..'), X an error class of the text -/
theorem js_raise' {c : String} {msg : Str} {j : Nat} {C : Addr} {p p2 pos2 : Pos} (hc : X.calm = true) (ex : PySem.W.excIn X.K C He.veBase "ValueError.__new__" = true ∧ PySem.W.keepIn X.K (.ref C) = true ∧ PySem.W.subIn X.K (.ref C) (.type "BaseException") = some true ∧ PySem.W.typeIn X.K (.ref C) = some (.type "type"))
    (gC : X.mg (Str.ofString c) = some (.ref C)) (hg : Gl X (Str.ofString c)) (hG : G.mg = X.mg) (hd : (Str.ofString c == ("__debug__" : Str)) = false := by decide) (hs : starEach [.Constant (.str msg) j p2] X.env = (false, eval (.Constant (.str msg) j p2) X.env) :: starEach [] X.env := by rfl) :
    JS G X (sRaise c) (.Raise (some (.Call (.Name (Str.ofString c) p) [.Constant (.str msg) j p2] [] pos)) none pos2) := js_raise hc PySem.F.excBase_ValueError ex.1 gC ex.2.1 (raises_own ex.2.2.1 ex.2.2.2) hg hG hd hs
end
/-- whole numbers that stay out of the written part -/
def Ints (mg : Str → Option Value) (l : List (Str × Int)) : Prop := ∀ p ∈ l, ∃ t, mg p.1 = some (.int p.2 t)
/-! ### the end -/
/-- no exception leaves the law -/
theorem noCX {P : Program} {w : World} (H : Hp) (s : Shared) (e : Value) (s' : Shared) (h : L2.CX P w [] H s (fun _ _ _ => False) e s') : False := by
  obtain ⟨_, _, _, _, _, _, _, _, _, _, _, _, z⟩ := h
  exact z
/-- the script, as the law's first value -/
def IsInts (h : AH) (x : W) (ns : List Int) : Prop := x = .d (.list (ns.map .int)) ∨ ∃ i, x = .ref i ∧ i < h.n ∧ h.f i = some (.lst (ns.map fun n => .d (.int n)))
theorem reps_ints {G : Gd} {H : Hp} : ∀ ns : List Int, RepDs G.K H (ns.map V.int) (ns.map .int)
  | [] => .nil
  | n :: ns => .cons (.int n) (reps_ints ns)
theorem lookup_mem {a : Addr} {o : Obj} : ∀ {l : List (Addr × Obj)}, l.lookup a = some o → (a, o) ∈ l
  | [], h => by cases h
  | (b, u) :: l, h => by
    rw [List.lookup_cons] at h
    cases q : (a == b) with
    | true =>
      rw [q] at h
      cases h
      rw [beq_iff_eq.mp q]
      exact List.mem_cons_self
    | false =>
      rw [q] at h
      exact List.mem_cons_of_mem _ (lookup_mem h)
theorem no_list {K : PySem.W.Frag} (hK : ∀ p ∈ K, p.2.cls ≠ .type "list") {a : Addr} {o : Obj} (e : K.lookup a = some o) : o.cls ≠ .type "list" := hK (a, o) (lookup_mem e)
/-- the law's promise, from what its function tells of every script -/
theorem law_sp {G : Gd} {P : Program} {fn : Fn} {n : Nat} (hK : ∀ p ∈ G.K, p.2.cls ≠ .type "list") (hb : G.bare = G) (H : Hp) (a : Addr) (ns : List Int) (ht : Tabs G.tabs H) (hS : SqL G.K H a (ns.map V.int))
    (law : ∀ (h : AH) (x : W), IsInts h x ns → ∃ h', fn [x] h = .ok (.d (.bool true)) h') : spOf G 1 fn [.ref a] H (fun v _ => v = .bl true) fun _ _ _ => False := by
  refine ⟨rfl, ?_⟩
  have fin : ∀ {ι : Io} {h h' : AH} {x : W}, fn [x] h = .ok (.d (.bool true)) h' → (fn [x] h).to (okP G.bare ι H fun v _ => v = .bl true) (erP G.bare ι H fun _ _ _ => False) := fun {ι h h' x} e => by
    rw [e]
    exact fun ι' v H' _ _ r => by cases r; rfl
  rcases hS with (h1 | ⟨o, h1⟩) | ⟨o, its, n, h1, h2, _⟩
  · -- the list is tracked
    let ι : Io := fun j => if j = 0 then some a else none
    let h : AH := ⟨1, fun j => if j = 0 then some (.lst (ns.map fun n => .d (.int n))) else none⟩
    have is0 : ∀ {i : Nat} {b : Addr}, ι i = some b → i = 0 ∧ b = a := fun {i b} hi => by
      have hi : (if i = 0 then some a else none) = some b := hi
      by_cases e : i = 0
      · rw [if_pos e] at hi
        exact ⟨e, (Option.some.inj hi).symm⟩
      · rw [if_neg e] at hi
        cases hi
    have ob : ∀ i o, h.f i = some o → ∃ b, ι i = some b ∧ RepO G.bare ι H b o := fun i o hi => by
      have hi : (if i = 0 then some (AO.lst (ns.map fun n => .d (.int n))) else none) = some o := hi
      by_cases e : i = 0
      · subst e
        rw [if_pos rfl] at hi
        cases hi
        refine ⟨a, rfl, ns.map V.int, h1, ?_⟩
        have : (ns.map fun n => W.d (.int n)) = (ns.map PyData.int).map W.d := by rw [List.map_map]; rfl
        rw [this]
        exact rep_map (G := G.bare.bare) (reps_ints (G := G) ns)
      · rw [if_neg e] at hi
        cases hi
    have rh : RlH G.bare ι h H :=
      { ob := ob
        lt := fun i b hi => by rw [(is0 hi).1]; exact Nat.one_pos
        inj := fun i j b hi hj => by rw [(is0 hi).1, (is0 hj).1]
        trk := fun i b hi => by rw [(is0 hi).2]; exact ⟨_, h1, fun ps z => by cases z⟩
        tab := ht }
    obtain ⟨h', e⟩ := law h (.ref 0) (.inr ⟨0, rfl, Nat.one_pos, rfl⟩)
    exact ⟨ι, h, [.ref 0], rh, .cons ⟨a, rfl, rfl⟩ .nil, fin e⟩
  · let h : AH := ⟨0, fun _ => none⟩
    have rh : RlH G.bare (fun _ => none) h H :=
      { ob := fun i o hi => by cases hi
        lt := fun i b hi => by cases hi
        inj := fun i j b hi _ => by cases hi
        trk := fun i b hi => by cases hi
        tab := ht }
    obtain ⟨h', e⟩ := law h (.d (.list (ns.map .int))) (.inl rfl)
    exact ⟨fun _ => none, h, [.d (.list (ns.map .int))], rh, .cons (.lst h1 (reps_ints (G := G) ns)) .nil, fin e⟩
  · exact absurd h2 (no_list hK h1)
theorem walk_X {l : PySem.W.OpenLaw} {n k : Nat} {q : Program} {loose : List Str} {XP : (Str → Option Value) → Heap → Prop} {YP : World → Heap → Prop} {d : DefRec} {K : Params → PySem.W.Frag} {x : Str}
    (hn : l.most = some n) (hn2 : n ≤ sizeLine) (hdf : d.params.defaults = []) (hr : Room k callerA) (hY : ∀ (w : World) (h : Heap), YP w h → (K w.params).In h)
    (F : ∀ (w : World) (mg : Str → Option Value) (fa : Addr) (h : Heap), XP mg h → YP w h → (K w.params).In h → h.Ns mainGlobals mg → mg d.name = some (.ref fa) → LawAtS l w (K w.params) (L2.CX l.prog w) k n x mg fa h) :
    PySem.W.WalkO q loose XP YP l.row.toRowW d [] (fun f vs => PySem.call f vs) := by
  refine Att.attach_callB hn hdf fun w s₀ s₁ mg mb fa o pm cd doc a vs ns G Y ho hd hcd hmg hobj hints hlen hbits hg => ?_
  have KX := hY w _ Y
  obtain ⟨fd, cs, sp, hT, nT, C, hb, hsp, hF⟩ := F w mg fa _ G.X Y KX G.T.g hmg
  exact law_callTs KX G.T.g G.T.b G.T.builtins G.T.nolimit hg hT nT C G.T.bmain hobj hints (Nat.le_trans hlen hn2) hr hF hb (fun H hH hS => hsp H a ns hlen hbits hH hS) fun H e s' => noCX H s₁ e s'
theorem ints_of {p : Program} {lv : List (Str × PySem.W.WData)} {mg : Str → Option Value} {h : Heap} (X : PySem.W.XL p lv mg h) {x : Str} {i : Int} (hm : (x, PySem.W.WData.int i) ∈ lv) : ∃ t, mg x = some (.int i t) := by
  obtain ⟨v, e, r⟩ := X.2.val _ hm
  cases r
  exact ⟨_, e⟩
end Q
namespace Q
open PySem PySem.Spec PyProof.Rows L2 LamX
/-! ### lambdas in the text, by their places -/
def kidsE : Expr → List Expr
  | .BoolOp _ vs _ => vs
  | .BinOp a _ b _ => [a, b]
  | .UnaryOp _ a _ => [a]
  | .Compare a _ bs _ => a :: bs
  | .Call f as _ _ => f :: as
  | .IfExp t a b _ => [t, a, b]
  | .Attribute e _ _ => [e]
  | .Subscript a b _ => [a, b]
  | .Tuple es _ _ => es
  | .List es _ => es
  | .ListComp elt gens _ _ => elt :: gens.flatMap fun g => g.iter :: g.ifs
  | _ => []
def kidsS : Stmt → List Expr
  | .Expr e _ => [e]
  | .Assign _ e _ => [e]
  | .If t _ _ _ => [t]
  | .While t _ _ _ => [t]
  | .For _ it _ _ _ => [it]
  | .Return (some e) _ => [e]
  | _ => []
def kidsSS : Stmt → List Stmt
  | .If _ a b _ => a ++ b
  | .While _ a b _ => a ++ b
  | .For _ _ a b _ => a ++ b
  | s => defBody s
def noE : Expr := .Constant .none 0 ⟨0, 0, 0, 0⟩
def kE (e : Expr) (i : Nat) : Expr := (kidsE e).getD i noE
def kS (s : Stmt) (i : Nat) : Expr := (kidsS s).getD i noE
def sS (s : Stmt) (i : Nat) : Stmt := (kidsSS s).getD i (.Pass ⟨0, 0, 0, 0⟩)
def dS (s : Stmt) (i : Nat) : Stmt := (defBody s).getD i (.Pass ⟨0, 0, 0, 0⟩)
def noScope : Scope := { kind := .function, names := [], isGenerator := false, isCoroutine := false, more := [] }
def lamI (e : Expr) : LamI := match e with
  | .Lambda params body scope _ => ⟨params, body, scope⟩
  | _ => ⟨{ posonlyargs := [], args := [], vararg := none, kwonlyargs := [], kw_defaults := [], kwarg := none, defaults := [] }, noE, noScope⟩
theorem LamsOk.of {G : Gd} {X : Cx} {k : Nat} : ∀ {ls : List LamI} {bodies : List SemE}, Paired (LamOk G X k) ls bodies → LamsOk G X k ls bodies
  | _, _, .nil, n, l, e => by simp at e
  | _, _, .cons h t, 0, l, e => by
    have e := Option.some.inj e
    subst e
    exact ⟨_, rfl, h⟩
  | _, _, .cons h t, n + 1, l, e => by
    obtain ⟨mk, h1, h2⟩ := LamsOk.of t n l (by simpa using e)
    exact ⟨mk, by simpa using h1, h2⟩
/-! ### [lambda: .., ..] -/
def allC : List W → Option (List Nat)
  | [] => some []
  | .clo k :: ws => (allC ws).map (k :: ·)
  | _ :: _ => none
theorem allC_rep {G : Gd} {ι : Io} {H : Hp} : ∀ {ws : List W} {vs : List V} {ks : List Nat}, allC ws = some ks → RepWs G ι H ws vs → Paired (fun k v => G.cl.p k ι H v) ks vs
  | [], _, ks, e, r => by
    cases r
    cases (Option.some.inj e)
    exact .nil
  | .clo k :: ws, _, ks, e, r => by
    cases r with
    | cons r1 r2 =>
      cases q : allC ws with
      | none => simp [allC, q] at e
      | some es =>
        simp [allC, q] at e
        subst e
        exact .cons r1 (allC_rep q r2)
  | .d _ :: _, _, _, e, _ => by simp [allC] at e
  | .ref _ :: _, _, _, e, _ => by simp [allC] at e
  | .exc _ _ :: _, _, _, e, _ => by simp [allC] at e
  | .clos _ :: _, _, _, e, _ => by simp [allC] at e
def eClos (ms : SemA) : SemE := fun ρ h => (ms ρ h).bind fun xs h1 => .ofOpt ((allC xs).bind fun ks => if ks.length ≤ 1000 then some (.clos ks) else none) h1
theorem je_clos {G : Gd} {X : Cx} {pos : Pos} {es : List Expr} {ms : SemA} (ha : JA G X ms es) : JE G X (eClos ms) (.List es pos) := fun U t => (pe_frz (pe_lst (ha U t))).imp fun σ H Q h => by
  refine rdA_bind (k := fun xs h1 => .ofOpt ((allC xs).bind fun ks => if ks.length ≤ 1000 then some (.clos ks) else none) h1) h fun ι1 xs h1 vs H1 r1 v1 m1 => ?_
  obtain ⟨z, ez, k⟩ := to_ofOpt m1
  cases hd : allC xs with
  | none => rw [hd] at ez; cases ez
  | some ks =>
    rw [hd] at ez
    have ez : (if ks.length ≤ 1000 then some (W.clos ks) else none) = some z := ez
    split at ez
    · rename_i hl
      cases ez
      have rd := allC_rep hd v1
      refine ⟨line1000 (by rw [← rd.length]; exact hl), fun p np => .inr ⟨p, vs, rfl, upd_same, fun o => ?_⟩⟩
      rw [upd2]
      exact k ι1 _ _ (Ext.fresh np) (r1.fresh np) ⟨p, o, vs, rfl, upd_same, paired_mono (fun k v r => G.cl.mono k ι1 H1 ι1 _ v (Ext.fresh np).lo r) rd⟩
    · cases ez
/-- the def that catches, from the facts -/
theorem caughtD {d : TxtD} {K : PySem.W.Frag} {mg : Str → Option Value} {h : Heap} {X : Cx} {errs : List String} {i j p : Nat} {st : Stmt} {k0 : Nat} {q1 q2 q3 p1 p2 p3 np r1 r2 r3 pos' tpos t1 t2 : Pos} (T : Txt d K mg h) (hK : X.K = K) (hm : X.mg = mg) (hd : d.fn[i]? = some (dOf ("_law_caught", none) "_law_caught" "_law_caught" st)) (hf : d.fa[j]? = some (.glo "_law_caught"))
    (hp : d.fa[p]? = some (.glo "PurseError")) (S : FnScope ["work", "found", "error"] ["work"] (defScope st)) (hb : defBody st = caughtBody "work" "found" "error" "PurseError" k0 q1 q2 q3 p1 p2 p3 np r1 r2 r3 pos' tpos t1 t2) (n1 : (defScope st).names.lookup ("work" : Str) = some .local) (n2 : (defScope st).names.lookup ("found" : Str) = some .local) (n3 : (defScope st).names.lookup ("error" : Str) = some .local) (n4 : (defScope st).names.lookup ("PurseError" : Str) = some .globalImplicit)
    (hB : ∀ fd, L2.Fun K "_law_caught" "_law_caught" st (He.fAd K ("_law_caught", none)) fd → L2.Binds K fd ["work"] []) (herr : ∀ c ∈ errs, ∃ n : Nat, d.fa[n]? = some (.exm (Str.ofString c) "PurseError" true) ∧ mg (Str.ofString c) = some (.ref (He.ga K (Str.ofString c)))) : CaughtDef X (Str.ofString "_law_caught") (He.ga K "_law_caught") errs mg := by
  subst hK
  subst hm
  obtain ⟨fd, F⟩ := T.fun_ i hd
  refine ⟨T.glo j hf, F.kp, st, fd, "work", "found", "error", "PurseError", He.ga X.K "PurseError", k0, q1, q2, q3, p1, p2, p3, np, r1, r2, r3, pos', tpos, t1, t2, F, hB fd F, S, hb, n1, n2, n3, n4, T.glo p hp, ?_, fun c hc C g => ?_⟩
  · intro n hn
    simp only [List.mem_cons, List.not_mem_nil, or_false] at hn
    rcases hn with rfl | rfl | rfl | rfl <;> exact ⟨by decide, by decide⟩
  · obtain ⟨n, h1, h2⟩ := herr c hc
    rw [h2] at g
    cases g
    exact He.exm_ok (T.c.fact n h1)
end Q
namespace Q
open PySem PySem.Spec PyProof.Rows L2 LamX
theorem tabs_nil {d : TxtD} {K : PySem.W.Frag} {H : Hp} (h : ∀ p ∈ d.cs K, H p.2 = some (.tbl #[])) : Tabs (d.tabs K) H := fun p hp => by
  obtain ⟨q, hq, rfl⟩ := List.mem_map.mp hp
  exact TabS.nil (h _ (List.mem_map.mpr ⟨q, hq, rfl⟩))
/-- the promise of a law at the head, from its def and its function -/
theorem law_at {l : PySem.W.OpenLaw} {d : TxtD} {K : PySem.W.Frag} {mg : Str → Option Value} {h : Heap} {w : World} {k : Nat} {fa : Addr} {ts : List Addr} {fn : Fn} {x : Str} (T : Txt d K mg h) (hts : ∀ P ∈ ts, h.get? P = some (PySem.W.tabObj #[])) (hc : (d.cs K).all (fun p => ts.contains p.2) = true)
    (F : ∃ fd : FuncData, (∀ (s : Shared) (u : Value), BindsTo s fd ⟨[u], []⟩ [(x, u)]) ∧ ∀ base : Heap, (∀ p ∈ d.cs K, TabB base mg p.1 p.2) → FnOk l.prog w K mg base (L2.CX l.prog w) k fa fd [x] (spOf ⟨w, K, mg, d.tabs K, Clo.no⟩ 1 fn))
    (law : ∀ ns : List Int, ns.length ≤ 63 → (∀ z ∈ ns, Builtin.Int.intBits z ≤ 1048576) → ∀ (h : AH) (x : W), IsInts h x ns → ∃ h', fn [x] h = .ok (.d (.bool true)) h') : LawAtS l w K (L2.CX l.prog w) k 63 x mg fa h := by
  obtain ⟨fd, hb, F⟩ := F
  refine ⟨fd, d.cs K, spOf ⟨w, K, mg, d.tabs K, Clo.no⟩ 1 fn, fun p hp => ?_, fun p hp => ?_, fun p hp => ?_, hb, fun H a ns hl hz hH hS => ?_, fun base _ _ TB => F base TB⟩
  · have := List.all_eq_true.mp hc p hp
    exact hts _ (by simpa using this)
  · obtain ⟨q, hq, rfl⟩ := List.mem_map.mp hp
    exact T.ands.2.2.2.1 q hq
  · obtain ⟨q, hq, rfl⟩ := List.mem_map.mp hp
    exact PySem.W.codeHd_of_K T.X (T.ands.2.2.1 q hq).2
  · exact law_sp (P := l.prog) (n := 0) (G := ⟨w, K, mg, d.tabs K, Clo.no⟩) T.ands.2.2.2.2.2 rfl H a ns (tabs_nil hH) hS (law ns hl hz)
end Q

set_option Elab.async false
set_option maxRecDepth 100000
set_option linter.all false
set_option autoImplicit false
set_option maxHeartbeats 4000000
/-! printed by gen.py -/
namespace Q
open PySem PySem.Spec PyProof.Rows L2 LamX
/-! ### the semantic functions -/
def CLS : ClsT := ⟨["Trust"], ["PurseError", "BadContent", "BadName", "BadWho"], [("BadContent", "PurseError"), ("BadName", "PurseError"), ("BadWho", "PurseError")]⟩
def ERRS : List String := ["PurseError", "BadContent", "BadName", "BadWho"]
/-- Trust.__init__(self); slots: 0 self -/
noncomputable def b_Trust___init__ : SemS :=
    (sSeq (sFldS "Trust" "contents" (eVar 0) (eLstH aNil))
    (sSeq (sFldS "Trust" "names" (eVar 0) eDctH)
    (sFldS "Trust" "seals" (eVar 0) eDctH)))
noncomputable def f_Trust___init__ : Fn := mkFn 1 b_Trust___init__
/-- is_number(value, low); slots: 0 value, 1 low -/
noncomputable def b_is_number : SemS :=
    (sRet (eAnd (eUn (isiO (isiB CLS "int")) (eVar 0)) (eAnd (eNot (eUn (isiO (isiB CLS "bool")) (eVar 0))) (eChain leO ltO (eVar 1) (eVar 0) (eC (.int 1000000000000000000))))))
noncomputable def f_is_number : Fn := mkFn 2 b_is_number
/-- has_name_form(value); slots: 0 value -/
noncomputable def b_has_name_form : SemS :=
    (sRet (eAnd (eUn (isiO (isiB CLS "tuple")) (eVar 0)) (eAnd (eOp eqO (eApp lenO (aCons (eVar 0) aNil)) (eC (.int 2))) (eAnd (eUn (isiO (isiB CLS "str")) (eOp ixO (eVar 0) (eC (.int 0)))) (eAnd (eOp eqO (eOp ixO (eVar 0) (eC (.int 0))) (eC (.str "name"))) (eCall 2 f_is_number (aCons (eOp ixO (eVar 0) (eC (.int 1))) (aCons (eC (.int 0)) aNil))))))))
noncomputable def f_has_name_form : Fn := mkFn 1 b_has_name_form
/-- Trust.is_name(self, value); slots: 0 self, 1 value -/
noncomputable def b_Trust_is_name : SemS :=
    (sRet (eAnd (eCall 1 f_has_name_form (aCons (eVar 1) aNil)) (eOp ltO (eOp ixO (eVar 1) (eC (.int 1))) (eApp lenO (aCons (eFld "Trust" "contents" (eVar 0)) aNil)))))
noncomputable def f_Trust_is_name : Fn := mkFn 2 b_Trust_is_name
/-- Trust.content(self, name); slots: 0 self, 1 name -/
noncomputable def b_Trust_content : SemS :=
    (sSeq (sIf (tNotS (tOf (eMeth "Trust" "is_name" 2 f_Trust_is_name (eVar 0) (aCons (eVar 1) aNil)))) (sRaise "BadName") sNil)
    (sRet (eOp ixO (eFld "Trust" "contents" (eVar 0)) (eOp ixO (eVar 1) (eC (.int 1))))))
noncomputable def f_Trust_content : Fn := mkFn 2 b_Trust_content
/-- is_plain(item); slots: 0 item -/
noncomputable def b_is_plain : SemS :=
    (sSeq (sIf (tOrS (tOf (eOp isO (eVar 0) (eC .none))) (tOf (eUn (isiO (isiB CLS "str")) (eVar 0)))) (sRet (eC (.bool true))) sNil)
    (sRet (eAnd (eUn (isiO (isiB CLS "int")) (eVar 0)) (eAnd (eNot (eUn (isiO (isiB CLS "bool")) (eVar 0))) (eOp ltO (eApp absO (aCons (eVar 0) aNil)) (eC (.int 1000000000000000000)))))))
noncomputable def f_is_plain : Fn := mkFn 1 b_is_plain
/-- parts_within(value); slots: 0 value, 1 found, 2 left, 3 item -/
noncomputable def b_parts_within : SemS :=
    (sSeq (sPar 1 2 (aCons (eLstH aNil) (aCons (eLstH (aCons (eVar 0) aNil)) aNil)))
    (sSeq (sWhile (tOf (eOp neO (eVar 2) (eLstD aNil))) (sSeq (sSet 3 (eMt popM (eVar 2) aNil))
    (sIf (tAndS (tOf (eUn (isiO (isiB CLS "tuple")) (eVar 3))) (tNotS (tOf (eCall 1 f_has_name_form (aCons (eVar 3) aNil))))) (sExpr (eMt extendM (eVar 2) (aCons (eVar 3) aNil))) (sExpr (eMt appendM (eVar 1) (aCons (eVar 3) aNil))))))
    (sRet (eVar 1))))
noncomputable def f_parts_within : Fn := mkFn 4 b_parts_within
/-- Trust.name(self, content); slots: 0 self, 1 content, 2 item -/
noncomputable def b_Trust_name : SemS :=
    (sSeq (sIf (tNotS (tOf (eApp allO (aCons (eComp [2] (iSeq (eCall 1 f_parts_within (aCons (eVar 1) aNil))) (gN 2) tYesS (eOr (eMeth "Trust" "is_name" 2 f_Trust_is_name (eVar 0) (aCons (eVar 2) aNil)) (eCall 1 f_is_plain (aCons (eVar 2) aNil)))) aNil)))) (sRaise "BadContent") sNil)
    (sSeq (sIf (tOf (eOp notInO (eVar 1) (eFld "Trust" "names" (eVar 0)))) (sSeq (sPut (eFld "Trust" "names" (eVar 0)) (eVar 1) (eTup (aCons (eC (.str "name")) (aCons (eApp lenO (aCons (eFld "Trust" "contents" (eVar 0)) aNil)) aNil))))
    (sExpr (eMt appendM (eFld "Trust" "contents" (eVar 0)) (aCons (eVar 1) aNil)))) sNil)
    (sRet (eOp ixO (eFld "Trust" "names" (eVar 0)) (eVar 1)))))
noncomputable def f_Trust_name : Fn := mkFn 3 b_Trust_name
/-- Trust.size(self); slots: 0 self -/
noncomputable def b_Trust_size : SemS :=
    (sRet (eApp lenO (aCons (eFld "Trust" "contents" (eVar 0)) aNil)))
noncomputable def f_Trust_size : Fn := mkFn 1 b_Trust_size
/-- _law_begun(script); slots: 0 script, 1 large, 2 grain -/
noncomputable def b__law_begun : SemS :=
    (sSeq (sSetLcH 1 [2] (iSeq (eVar 0)) (gN 2) (tOf (eOp geO (eApp absO (aCons (eVar 2) aNil)) (eOp powO (eC (.int 10)) (eC (.int 18))))) (eOp subO (eApp absO (aCons (eVar 2) aNil)) (eOp powO (eC (.int 10)) (eC (.int 18)))))
    (sRet (eDisp ["large", "rest", "cells", "turn"] (aCons (eVar 1) (aCons (eC (.int 0)) (aCons (eComp [2] (iSeq (eVar 0)) (gN 2) tYesS (eApp absO (aCons (eVar 2) aNil))) (aCons (eC (.int 0)) aNil)))))))
noncomputable def f__law_begun : Fn := mkFn 3 b__law_begun
/-- _law_blend(tape); slots: 0 tape, 1 turn, 2 found, 3 great, 4 blended, 5 grain -/
noncomputable def b__law_blend : SemS :=
    (sSeq (sPut (eVar 0) (eC (.str "turn")) (eOp addO (eOp ixO (eVar 0) (eC (.str "turn"))) (eC (.int 1))))
    (sSeq (sPar 1 2 (aCons (eApp intO (aCons (eOp ixO (eVar 0) (eC (.str "turn"))) aNil)) (aCons (eC (.int 0)) aNil)))
    (sSeq (sFor (iSeq (eLstD (aCons (eC (.int 2147483629)) (aCons (eC (.int 2147483587)) (aCons (eC (.int 2147483579)) aNil))))) (gN 3) (sSeq (sSet 4 (eOp modO (eOp addO (eOp mulO (eVar 1) (eC (.int 69621))) (eOp fdivO (eVar 3) (eC (.int 7)))) (eVar 3)))
    (sSeq (sFor (iSeq (eOp ixO (eVar 0) (eC (.str "cells")))) (gN 5) (sSet 4 (eOp modO (eOp addO (eOp mulO (eVar 4) (eC (.int 48271))) (eApp intO (aCons (eVar 5) aNil))) (eVar 3))))
    (sSet 2 (eOp addO (eOp mulO (eVar 2) (eC (.int 2147483647))) (eOp modO (eOp powO (eVar 4) (eC (.int 5))) (eVar 3)))))))
    (sRet (eVar 2)))))
noncomputable def f__law_blend : Fn := mkFn 6 b__law_blend
/-- _law_draw(tape, size); slots: 0 tape, 1 size, 2 found -/
noncomputable def b__law_draw : SemS :=
    (sSeq (sIf (tOf (eOp eqO (eOp ixO (eVar 0) (eC (.str "rest"))) (eC (.int 0)))) (sPut (eVar 0) (eC (.str "rest")) (eIf (tOf (eOp neO (eOp ixO (eVar 0) (eC (.str "large"))) (eLstD aNil))) (eMt popAtM (eOp ixO (eVar 0) (eC (.str "large"))) (aCons (eC (.int 0)) aNil)) (eCall 1 f__law_blend (aCons (eVar 0) aNil)))) sNil)
    (sSeq (sSet 2 (eOp modO (eApp intO (aCons (eOp ixO (eVar 0) (eC (.str "rest"))) aNil)) (eVar 1)))
    (sSeq (sPut (eVar 0) (eC (.str "rest")) (eOp fdivO (eApp intO (aCons (eOp ixO (eVar 0) (eC (.str "rest"))) aNil)) (eVar 1)))
    (sRet (eVar 2)))))
noncomputable def f__law_draw : Fn := mkFn 3 b__law_draw
/-- _law_pick(tape, several); slots: 0 tape, 1 several -/
noncomputable def b__law_pick : SemS :=
    (sRet (eOp ixO (eVar 1) (eCall 2 f__law_draw (aCons (eVar 0) (aCons (eApp lenO (aCons (eVar 1) aNil)) aNil)))))
noncomputable def f__law_pick : Fn := mkFn 2 b__law_pick
/-- _law_content(tape, given, depth); slots: 0 tape, 1 given, 2 depth, 3 way, 4 items, 5 item -/
noncomputable def b__law_content (self : Fn) : SemS :=
    (sSeq (sSet 3 (eCall 2 f__law_draw (aCons (eVar 0) (aCons (eIf (tOf (eOp gtO (eVar 2) (eC (.int 0)))) (eC (.int 6)) (eC (.int 4))) aNil))))
    (sSeq (sIf (tOf (eOp eqO (eVar 3) (eC (.int 0)))) (sRet (eCall 2 f__law_pick (aCons (eVar 0) (aCons (eLstD (aCons (eC (.int 0)) (aCons (eUn negO (eC (.int 5))) (aCons (eC (.int 7)) (aCons (eOp powO (eC (.int 10)) (eC (.int 17))) (aCons (eC (.int 1)) (aCons (eC (.int 2)) aNil))))))) aNil)))) sNil)
    (sSeq (sIf (tOf (eOp eqO (eVar 3) (eC (.int 1)))) (sRet (eCall 2 f__law_pick (aCons (eVar 0) (aCons (eLstD (aCons (eC (.str "")) (aCons (eC (.str "word")) (aCons (eC (.str "name")) (aCons (eC (.str "pay")) (aCons (eC .none) aNil)))))) aNil)))) sNil)
    (sSeq (sIf (tAndS (tOf (eOp eqO (eVar 3) (eC (.int 2)))) (tOf (eOp gtO (eVar 1) (eC (.int 0))))) (sRet (eTup (aCons (eC (.str "name")) (aCons (eCall 2 f__law_draw (aCons (eVar 0) (aCons (eVar 1) aNil))) aNil)))) sNil)
    (sSeq (sIf (tOf (eOp ltO (eVar 3) (eC (.int 4)))) (sRet (eCall 2 f__law_pick (aCons (eVar 0) (aCons (eLstD (aCons (eC .none) (aCons (eC (.str "x")) (aCons (eC (.int 3)) aNil)))) aNil)))) sNil)
    (sSeq (sSetLc 4 [5] (iRange1 (eCall 2 f__law_draw (aCons (eVar 0) (aCons (eC (.int 4)) aNil)))) (gN 5) tYesS (eCall 3 self (aCons (eVar 0) (aCons (eVar 1) (aCons (eOp subO (eVar 2) (eC (.int 1))) aNil)))))
    (sRet (eApp tupleO (aCons (eOp addO (eIf (tAndS (tOf (eOp eqO (eVar 3) (eC (.int 5)))) (tOf (eOp neO (eApp lenO (aCons (eVar 4) aNil)) (eC (.int 1))))) (eLstD (aCons (eC (.str "name")) aNil)) (eLstD aNil)) (eVar 4)) aNil)))))))))
noncomputable def fr__law_content : Nat → Fn
  | 0 => fun _ _ => .bad
  | k + 1 => mkFn 6 (b__law_content (fr__law_content k))
noncomputable def f__law_content : Fn := fr__law_content 14
/-- _law_is_number(thing, low, high); slots: 0 thing, 1 low, 2 high -/
noncomputable def b__law_is_number : SemS :=
    (sRet (eAnd (eUn (isiO (isiB CLS "int")) (eVar 0)) (eAnd (eNot (eUn (isiO (isiB CLS "bool")) (eVar 0))) (eChain leO leO (eVar 1) (eVar 0) (eVar 2)))))
noncomputable def f__law_is_number : Fn := mkFn 3 b__law_is_number
/-- _law_is_content(thing, given, depth); slots: 0 thing, 1 given, 2 depth, 3 item -/
noncomputable def b__law_is_content (self : Fn) : SemS :=
    (sSeq (sIf (tOrS (tOf (eOp isO (eVar 0) (eC .none))) (tOf (eUn (isiO (isiB CLS "str")) (eVar 0)))) (sRet (eC (.bool true))) sNil)
    (sSeq (sIf (tAndS (tOf (eUn (isiO (isiB CLS "int")) (eVar 0))) (tNotS (tOf (eUn (isiO (isiB CLS "bool")) (eVar 0))))) (sRet (eC (.bool true))) sNil)
    (sSeq (sIf (tOrS (tNotS (tOf (eUn (isiO (isiB CLS "tuple")) (eVar 0)))) (tOf (eOp eqO (eVar 2) (eC (.int 0))))) (sRet (eC (.bool false))) sNil)
    (sSeq (sIf (tAndS (tOf (eOp eqO (eApp lenO (aCons (eVar 0) aNil)) (eC (.int 2)))) (tAndS (tOf (eUn (isiO (isiB CLS "str")) (eOp ixO (eVar 0) (eC (.int 0))))) (tAndS (tOf (eOp eqO (eOp ixO (eVar 0) (eC (.int 0))) (eC (.str "name")))) (tOf (eCall 3 f__law_is_number (aCons (eOp ixO (eVar 0) (eC (.int 1))) (aCons (eC (.int 0)) (aCons (eOp powO (eC (.int 10)) (eC (.int 18))) aNil)))))))) (sRet (eOp ltO (eOp ixO (eVar 0) (eC (.int 1))) (eVar 1))) sNil)
    (sRet (eOp eqO (eComp [3] (iSeq (eVar 0)) (gN 3) (tNotS (tOf (eCall 3 self (aCons (eVar 3) (aCons (eVar 1) (aCons (eOp subO (eVar 2) (eC (.int 1))) aNil)))))) (eVar 3)) (eLstD aNil)))))))
noncomputable def fr__law_is_content : Nat → Fn
  | 0 => fun _ _ => .bad
  | k + 1 => mkFn 4 (b__law_is_content (fr__law_is_content k))
noncomputable def f__law_is_content : Fn := fr__law_is_content 14
/-- _law_names_in(thing, depth); slots: 0 thing, 1 depth, 2 found, 3 item -/
noncomputable def b__law_names_in (self : Fn) : SemS :=
    (sSeq (sIf (tOrS (tNotS (tOf (eUn (isiO (isiB CLS "tuple")) (eVar 0)))) (tOf (eOp eqO (eVar 1) (eC (.int 0))))) (sRet (eLstD aNil)) sNil)
    (sSeq (sIf (tAndS (tOf (eOp eqO (eApp lenO (aCons (eVar 0) aNil)) (eC (.int 2)))) (tAndS (tOf (eUn (isiO (isiB CLS "str")) (eOp ixO (eVar 0) (eC (.int 0))))) (tAndS (tOf (eOp eqO (eOp ixO (eVar 0) (eC (.int 0))) (eC (.str "name")))) (tOf (eCall 3 f__law_is_number (aCons (eOp ixO (eVar 0) (eC (.int 1))) (aCons (eC (.int 0)) (aCons (eOp powO (eC (.int 10)) (eC (.int 18))) aNil)))))))) (sRet (eLstD (aCons (eOp ixO (eVar 0) (eC (.int 1))) aNil))) sNil)
    (sSeq (sSet 2 (eLstD aNil))
    (sSeq (sFor (iSeq (eVar 0)) (gN 3) (sSet 2 (eOp addO (eVar 2) (eCall 2 self (aCons (eVar 3) (aCons (eOp subO (eVar 1) (eC (.int 1))) aNil))))))
    (sRet (eVar 2))))))
noncomputable def fr__law_names_in : Nat → Fn
  | 0 => fun _ _ => .bad
  | k + 1 => mkFn 4 (b__law_names_in (fr__law_names_in k))
noncomputable def f__law_names_in : Fn := fr__law_names_in 14
/-- _law_named(tape, trust); slots: 0 tape, 1 trust, 2 line, 3 lap, 4 content, 5 bad, 6 number -/
noncomputable def lams__law_named : List SemE := [(eMeth "Trust" "name" 2 f_Trust_name (eVar 1) (aCons (eVar 5) aNil))]
noncomputable def b__law_named : SemS :=
    (sSeq (sSet 2 (eLstH aNil))
    (sSeq (sFor (iRange1 (eC (.int 24))) (gN 3) (sSeq (sSet 4 (eIf (tAndS (tOf (eOp neO (eVar 2) (eLstD aNil))) (tOf (eOp eqO (eCall 2 f__law_draw (aCons (eVar 0) (aCons (eC (.int 4)) aNil))) (eC (.int 0))))) (eCall 2 f__law_pick (aCons (eVar 0) (aCons (eVar 2) aNil))) (eCall 3 f__law_content (aCons (eVar 0) (aCons (eApp lenO (aCons (eVar 2) aNil)) (aCons (eC (.int 3)) aNil))))))
    (sSeq (sSet 4 (eIf (tOf (eCall 3 f__law_is_content (aCons (eVar 4) (aCons (eApp lenO (aCons (eVar 2) aNil)) (aCons (eC (.int 9)) aNil))))) (eVar 4) (eC (.str "x"))))
    (sSeq (sIf (tOf (eOp notInO (eVar 4) (eVar 2))) (sExpr (eMt appendM (eVar 2) (aCons (eVar 4) aNil))) sNil)
    (sSeq (sIf (tOrS (tOf (eOp neO (eMeth "Trust" "name" 2 f_Trust_name (eVar 1) (aCons (eVar 4) aNil)) (eTup (aCons (eC (.str "name")) (aCons (eMt indexM (eVar 2) (aCons (eVar 4) aNil)) aNil))))) (tOf (eOp neO (eMeth "Trust" "size" 1 f_Trust_size (eVar 1) aNil) (eApp lenO (aCons (eVar 2) aNil))))) (sRet (eC .none)) sNil)
    (sSeq (sIf (tOf (eOp neO (eComp [6] (iSeq (eCall 2 f__law_names_in (aCons (eVar 4) (aCons (eC (.int 9)) aNil)))) (gN 6) (tOf (eOp geO (eVar 6) (eMt indexM (eVar 2) (aCons (eVar 4) aNil)))) (eVar 6)) (eLstD aNil))) (sRet (eC .none)) sNil)
    (sSeq (sSet 5 (eCall 2 f__law_pick (aCons (eVar 0) (aCons (eLstD (aCons (eC (.bool true)) (aCons (eLstD (aCons (eC (.int 1)) aNil)) (aCons eDctD (aCons (eTup (aCons (eC (.str "name")) (aCons (eApp lenO (aCons (eVar 2) aNil)) aNil))) (aCons (eTup (aCons (eC (.int 1)) (aCons (eTup (aCons (eC (.str "name")) (aCons (eOp powO (eC (.int 10)) (eC (.int 9))) aNil))) aNil))) (aCons (eTup (aCons (eTup (aCons (eC (.bool true)) aNil)) aNil)) (aCons (eTup (aCons (eC (.str "x")) (aCons (eLstD (aCons (eC (.int 1)) aNil)) aNil))) (aCons (eTup (aCons (eC .none) (aCons (eTup (aCons (eC (.str "y")) (aCons (eTup (aCons (eC (.str "name")) (aCons (eOp addO (eApp lenO (aCons (eVar 2) aNil)) (eC (.int 1))) aNil))) aNil))) aNil))) (aCons (eTup (aCons (eC (.bool false)) (aCons (eC (.int 1)) aNil))) aNil)))))))))) aNil))))
    (sIf (tOrS (tOf (eCall 3 f__law_is_content (aCons (eVar 5) (aCons (eApp lenO (aCons (eVar 2) aNil)) (aCons (eC (.int 9)) aNil))))) (tOrS (tNotS (tOf (eUn (isiO (isiC CLS "BadContent")) (eCaught ERRS lams__law_named (eLam 0))))) (tOf (eOp neO (eMeth "Trust" "size" 1 f_Trust_size (eVar 1) aNil) (eApp lenO (aCons (eVar 2) aNil)))))) (sRet (eC .none)) sNil))))))))
    (sRet (eVar 2))))
noncomputable def f__law_named : Fn := mkFnL 7 b__law_named
/-- is_who(value); slots: 0 value -/
noncomputable def b_is_who : SemS :=
    (sSeq (sIf (tOrS (tNotS (tOf (eUn (isiO (isiB CLS "tuple")) (eVar 0)))) (tOrS (tOf (eOp neO (eApp lenO (aCons (eVar 0) aNil)) (eC (.int 2)))) (tNotS (tOf (eUn (isiO (isiB CLS "str")) (eOp ixO (eVar 0) (eC (.int 0)))))))) (sRet (eC (.bool false))) sNil)
    (sRet (eAnd (eOp inO (eOp ixO (eVar 0) (eC (.int 0))) (eTup (aCons (eC (.str "owner")) (aCons (eC (.str "member")) aNil)))) (eCall 2 f_is_number (aCons (eOp ixO (eVar 0) (eC (.int 1))) (aCons (eC (.int 0)) aNil))))))
noncomputable def f_is_who : Fn := mkFn 1 b_is_who
/-- Trust.seal(self, who, name); slots: 0 self, 1 who, 2 name -/
noncomputable def b_Trust_seal : SemS :=
    (sSeq (sIf (tNotS (tOf (eCall 1 f_is_who (aCons (eVar 1) aNil)))) (sRaise "BadWho") sNil)
    (sSeq (sIf (tNotS (tOf (eMeth "Trust" "is_name" 2 f_Trust_is_name (eVar 0) (aCons (eVar 2) aNil)))) (sRaise "BadName") sNil)
    (sPut (eFld "Trust" "seals" (eVar 0)) (eTup (aCons (eVar 1) (aCons (eVar 2) aNil))) (eC (.bool true)))))
noncomputable def f_Trust_seal : Fn := mkFn 3 b_Trust_seal
/-- Trust.sealed(self, who, name); slots: 0 self, 1 who, 2 name -/
noncomputable def b_Trust_sealed : SemS :=
    (sSeq (sIf (tNotS (tOf (eCall 1 f_is_who (aCons (eVar 1) aNil)))) (sRaise "BadWho") sNil)
    (sSeq (sIf (tNotS (tOf (eMeth "Trust" "is_name" 2 f_Trust_is_name (eVar 0) (aCons (eVar 2) aNil)))) (sRaise "BadName") sNil)
    (sRet (eOp inO (eTup (aCons (eVar 1) (aCons (eVar 2) aNil))) (eFld "Trust" "seals" (eVar 0))))))
noncomputable def f_Trust_sealed : Fn := mkFn 3 b_Trust_sealed
/-- _law_is_bool(value, due); slots: 0 value, 1 due -/
noncomputable def b__law_is_bool : SemS :=
    (sRet (eIf (tOf (eVar 1)) (eOp isO (eVar 0) (eC (.bool true))) (eOp isO (eVar 0) (eC (.bool false)))))
noncomputable def f__law_is_bool : Fn := mkFn 2 b__law_is_bool
/-- _law_seals_right(tape, trust, line); slots: 0 tape, 1 trust, 2 line, 3 sealed, 4 lap, 5 who, 6 name, 7 works, 8 work -/
noncomputable def lams__law_seals_right : List SemE := [(eMeth "Trust" "seal" 3 f_Trust_seal (eVar 1) (aCons (eVar 5) (aCons (eTup (aCons (eC (.str "name")) (aCons (eC (.int 0)) aNil))) aNil))), (eMeth "Trust" "sealed" 3 f_Trust_sealed (eVar 1) (aCons (eVar 5) (aCons (eC .none) aNil))), (eMeth "Trust" "seal" 3 f_Trust_seal (eVar 1) (aCons (eTup (aCons (eC (.str "owner")) (aCons (eC (.int 0)) aNil))) (aCons (eVar 6) aNil))), (eMeth "Trust" "sealed" 3 f_Trust_sealed (eVar 1) (aCons (eTup (aCons (eC (.str "member")) (aCons (eC (.int 1)) aNil))) (aCons (eVar 6) aNil))), (eMeth "Trust" "content" 2 f_Trust_content (eVar 1) (aCons (eVar 6) aNil))]
noncomputable def b__law_seals_right : SemS :=
    (sSeq (sSet 3 (eLstH aNil))
    (sSeq (sFor (iRange1 (eC (.int 20))) (gN 4) (sSeq (sSet 5 (eTup (aCons (eCall 2 f__law_pick (aCons (eVar 0) (aCons (eLstD (aCons (eC (.str "owner")) (aCons (eC (.str "member")) aNil))) aNil))) (aCons (eCall 2 f__law_draw (aCons (eVar 0) (aCons (eC (.int 4)) aNil))) aNil))))
    (sSeq (sSet 6 (eTup (aCons (eC (.str "name")) (aCons (eCall 2 f__law_draw (aCons (eVar 0) (aCons (eApp lenO (aCons (eVar 2) aNil)) aNil))) aNil))))
    (sSeq (sIf (tOf (eOp eqO (eCall 2 f__law_draw (aCons (eVar 0) (aCons (eC (.int 2)) aNil))) (eC (.int 0)))) (sSeq (sIf (tOf (eOp isNotO (eMeth "Trust" "seal" 3 f_Trust_seal (eVar 1) (aCons (eVar 5) (aCons (eVar 6) aNil))) (eC .none))) (sRet (eC (.bool false))) sNil)
    (sExpr (eMt appendM (eVar 3) (aCons (eTup (aCons (eVar 5) (aCons (eVar 6) aNil))) aNil)))) sNil)
    (sIf (tNotS (tOf (eCall 2 f__law_is_bool (aCons (eMeth "Trust" "sealed" 3 f_Trust_sealed (eVar 1) (aCons (eVar 5) (aCons (eVar 6) aNil))) (aCons (eOp inO (eTup (aCons (eVar 5) (aCons (eVar 6) aNil))) (eVar 3)) aNil))))) (sRet (eC (.bool false))) sNil)))))
    (sSeq (sFor (iSeq (eLstD (aCons (eC .none) (aCons (eTup (aCons (eC (.str "owner")) aNil)) (aCons (eTup (aCons (eC (.str "owner")) (aCons (eUn negO (eC (.int 1))) aNil))) (aCons (eTup (aCons (eC (.str "owner")) (aCons (eC (.bool true)) aNil))) (aCons (eLstD (aCons (eC (.str "owner")) (aCons (eC (.int 0)) aNil))) (aCons (eTup (aCons (eC (.str "Owner")) (aCons (eC (.int 0)) aNil))) (aCons (eTup (aCons (eC (.str "owner")) (aCons (eC (.int 0)) (aCons (eC (.int 0)) aNil)))) (aCons (eTup (aCons (eC (.str "member")) (aCons (eC (.str "0")) aNil))) (aCons (eTup (aCons (eC (.int 5)) (aCons (eC (.int 0)) aNil))) aNil))))))))))) (gN 5) (sSeq (sSet 7 (eClos (aCons (eLam 0) (aCons (eLam 1) aNil))))
    (sIf (tOf (eOp neO (eCompC [8] (iSeq (eVar 7)) (gN 8) (fun ρ0 => (tNotS (tOf (eUn (isiO (isiC CLS "BadWho")) (eCaughtB ERRS lams__law_seals_right ρ0 (eVar 8)))))) (fun ρ0 => (eVar 8))) (eLstD aNil))) (sRet (eC (.bool false))) sNil)))
    (sSeq (sFor (iSeq (eLstD (aCons (eC .none) (aCons (eC (.int 0)) (aCons (eTup (aCons (eC (.str "name")) (aCons (eApp lenO (aCons (eVar 2) aNil)) aNil))) (aCons (eTup (aCons (eC (.str "name")) (aCons (eUn negO (eC (.int 1))) aNil))) (aCons (eTup (aCons (eC (.str "name")) (aCons (eC (.bool true)) aNil))) (aCons (eLstD (aCons (eC (.str "name")) (aCons (eC (.int 0)) aNil))) (aCons (eTup (aCons (eC (.str "name")) aNil)) (aCons (eTup (aCons (eC (.str "Name")) (aCons (eC (.int 0)) aNil))) (aCons (eTup (aCons (eC (.str "name")) (aCons (eC (.int 0)) (aCons (eC (.int 0)) aNil)))) aNil))))))))))) (gN 6) (sSeq (sSet 7 (eClos (aCons (eLam 2) (aCons (eLam 3) (aCons (eLam 4) aNil)))))
    (sIf (tOrS (tOf (eOp neO (eCompC [8] (iSeq (eVar 7)) (gN 8) (fun ρ0 => (tNotS (tOf (eUn (isiO (isiC CLS "BadName")) (eCaughtB ERRS lams__law_seals_right ρ0 (eVar 8)))))) (fun ρ0 => (eVar 8))) (eLstD aNil))) (tOf (eOp isNotO (eMeth "Trust" "is_name" 2 f_Trust_is_name (eVar 1) (aCons (eVar 6) aNil)) (eC (.bool false))))) (sRet (eC (.bool false))) sNil)))
    (sRet (eC (.bool true)))))))
noncomputable def f__law_seals_right : Fn := mkFnL 9 b__law_seals_right
/-- law(script); slots: 0 script, 1 tape, 2 lap, 3 trust, 4 line, 5 number, 6 content, 7 one -/
noncomputable def b_law : SemS :=
    (sSeq (sSet 1 (eCall 1 f__law_begun (aCons (eVar 0) aNil)))
    (sSeq (sFor (iRange1 (eOp addO (eC (.int 4)) (eApp minO (aCons (eApp lenO (aCons (eVar 0) aNil)) (aCons (eC (.int 7)) aNil))))) (gN 2) (sSeq (sSet 3 (eMake "Trust" 1 f_Trust___init__ aNil))
    (sSeq (sIf (tOrS (tOf (eOp neO (eMeth "Trust" "size" 1 f_Trust_size (eVar 3) aNil) (eC (.int 0)))) (tOf (eOp isNotO (eMeth "Trust" "is_name" 2 f_Trust_is_name (eVar 3) (aCons (eTup (aCons (eC (.str "name")) (aCons (eC (.int 0)) aNil))) aNil)) (eC (.bool false))))) (sRet (eC (.bool false))) sNil)
    (sSeq (sSet 4 (eCall 2 f__law_named (aCons (eVar 1) (aCons (eVar 3) aNil))))
    (sSeq (sIf (tOrS (tOf (eOp isO (eVar 4) (eC .none))) (tNotS (tOf (eCall 3 f__law_seals_right (aCons (eVar 1) (aCons (eVar 3) (aCons (eVar 4) aNil))))))) (sRet (eC (.bool false))) sNil)
    (sFor (iEnumL (eVar 4)) (gT 2 (gsCons (gN 5) (gsCons (gN 6) gsNil))) (sIf (tOrS (tOf (eOp neO (eMeth "Trust" "content" 2 f_Trust_content (eVar 3) (aCons (eTup (aCons (eC (.str "name")) (aCons (eVar 5) aNil))) aNil)) (eVar 6))) (tOrS (tOf (eOp isNotO (eMeth "Trust" "is_name" 2 f_Trust_is_name (eVar 3) (aCons (eTup (aCons (eC (.str "name")) (aCons (eVar 5) aNil))) aNil)) (eC (.bool true)))) (tOf (eOp neO (eMeth "Trust" "name" 2 f_Trust_name (eVar 3) (aCons (eVar 6) aNil)) (eTup (aCons (eC (.str "name")) (aCons (eVar 5) aNil))))))) (sRet (eC (.bool false))) sNil)))))))
    (sSeq (sSet 3 (eMake "Trust" 1 f_Trust___init__ aNil))
    (sSeq (sSet 7 (eMeth "Trust" "name" 2 f_Trust_name (eVar 3) (aCons (eTup (aCons (eC (.str "name")) (aCons (eC (.str "x")) aNil))) aNil)))
    (sRet (eAnd (eOp eqO (eVar 7) (eTup (aCons (eC (.str "name")) (aCons (eC (.int 0)) aNil)))) (eAnd (eOp eqO (eMeth "Trust" "name" 2 f_Trust_name (eVar 3) (aCons (eTup (aCons (eC (.str "name")) (aCons (eC (.int 5)) (aCons (eC (.int 5)) aNil)))) aNil)) (eTup (aCons (eC (.str "name")) (aCons (eC (.int 1)) aNil)))) (eAnd (eOp eqO (eMeth "Trust" "content" 2 f_Trust_content (eVar 3) (aCons (eVar 7) aNil)) (eTup (aCons (eC (.str "name")) (aCons (eC (.str "x")) aNil)))) (eNot (eUn (isiO (isiC CLS "PurseError")) (eVar 1)))))))))))
noncomputable def f_law : Fn := mkFn 8 b_law
end Q

set_option Elab.async false
set_option maxRecDepth 100000
set_option linter.all false
set_option autoImplicit false
set_option maxHeartbeats 4000000
/-! printed by gen.py -/
namespace Q
open PySem PySem.Spec PyProof.Rows L2 LamX
/-! ### the text -/
def top (i : Nat) : Stmt := PySem.Challenge.pw_pursespassed_k15_whole_names_contents_an.main.body.getD i (.Pass ⟨0, 0, 0, 0⟩)
def sub (st : Stmt) (j : Nat) : Stmt := match st with
  | .ClassDef _ _ _ body _ _ _ _ _ _ _ => body.getD j (.Pass ⟨0, 0, 0, 0⟩)
  | _ => .Pass ⟨0, 0, 0, 0⟩
abbrev s_Trust___init__ : Stmt := (sub (top 13) 0)
abbrev s_is_number : Stmt := (top 7)
abbrev s_has_name_form : Stmt := (top 8)
abbrev s_Trust_is_name : Stmt := (sub (top 13) 1)
abbrev s_Trust_content : Stmt := (sub (top 13) 3)
abbrev s_is_plain : Stmt := (top 11)
abbrev s_parts_within : Stmt := (top 10)
abbrev s_Trust_name : Stmt := (sub (top 13) 2)
abbrev s_Trust_size : Stmt := (sub (top 13) 6)
abbrev s__law_begun : Stmt := (top 15)
abbrev s__law_blend : Stmt := (top 16)
abbrev s__law_draw : Stmt := (top 17)
abbrev s__law_pick : Stmt := (top 18)
abbrev s__law_content : Stmt := (top 22)
abbrev s__law_is_number : Stmt := (top 20)
abbrev s__law_is_content : Stmt := (top 23)
abbrev s__law_names_in : Stmt := (top 24)
abbrev s__law_named : Stmt := (top 25)
abbrev s_is_who : Stmt := (top 12)
abbrev s_Trust_seal : Stmt := (sub (top 13) 4)
abbrev s_Trust_sealed : Stmt := (sub (top 13) 5)
abbrev s__law_is_bool : Stmt := (top 19)
abbrev s__law_seals_right : Stmt := (top 26)
abbrev s_law : Stmt := (top 27)
def intL : List (Str × Int) := [("MOST_NUMBER", 1000000000000000000)]
abbrev s__law_caught : Stmt := (top 21)
def factsL : List He.Fa := [.noat "Trust" "seals", .noat "Trust" "names", .noat "Trust" "contents", .meth "Trust" "__init__", .mkr "Trust", .free "isinstance", .free "bool", .free "int", .glo "is_number", .free "str", .free "len", .free "tuple", .glo "has_name_form", .meth "Trust" "is_name", .exc "BadName", .meth "Trust" "content", .free "abs", .glo "is_plain", .glo "parts_within", .free "all", .exc "BadContent", .meth "Trust" "name", .meth "Trust" "size", .glo "_law_begun", .glo "_law_blend", .glo "_law_draw", .glo "_law_pick", .free "range", .glo "_law_content", .glo "_law_is_number", .glo "_law_is_content", .glo "_law_names_in", .glo "_law_named", .glo "is_who", .exc "BadWho", .meth "Trust" "seal", .meth "Trust" "sealed", .glo "_law_is_bool", .glo "_law_seals_right", .free "min", .free "enumerate", .glo "law", .glo "_law_caught", .glo "PurseError", .exm "PurseError" "PurseError" true, .exm "BadContent" "PurseError" true, .exm "BadName" "PurseError" true, .exm "BadWho" "PurseError" true]
def defsL : List He.FnD := [dOf ("Trust", some "__init__") "__init__" "Trust.__init__" s_Trust___init__,
  dOf ("is_number", none) "is_number" "is_number" s_is_number,
  dOf ("has_name_form", none) "has_name_form" "has_name_form" s_has_name_form,
  dOf ("Trust", some "is_name") "is_name" "Trust.is_name" s_Trust_is_name,
  dOf ("Trust", some "content") "content" "Trust.content" s_Trust_content,
  dOf ("is_plain", none) "is_plain" "is_plain" s_is_plain,
  dOf ("parts_within", none) "parts_within" "parts_within" s_parts_within,
  dOf ("Trust", some "name") "name" "Trust.name" s_Trust_name,
  dOf ("Trust", some "size") "size" "Trust.size" s_Trust_size,
  dOf ("_law_begun", none) "_law_begun" "_law_begun" s__law_begun,
  dOf ("_law_blend", none) "_law_blend" "_law_blend" s__law_blend,
  dOf ("_law_draw", none) "_law_draw" "_law_draw" s__law_draw,
  dOf ("_law_pick", none) "_law_pick" "_law_pick" s__law_pick,
  dOf ("_law_content", none) "_law_content" "_law_content" s__law_content,
  dOf ("_law_is_number", none) "_law_is_number" "_law_is_number" s__law_is_number,
  dOf ("_law_is_content", none) "_law_is_content" "_law_is_content" s__law_is_content,
  dOf ("_law_names_in", none) "_law_names_in" "_law_names_in" s__law_names_in,
  dOf ("_law_named", none) "_law_named" "_law_named" s__law_named,
  dOf ("is_who", none) "is_who" "is_who" s_is_who,
  dOf ("Trust", some "seal") "seal" "Trust.seal" s_Trust_seal,
  dOf ("Trust", some "sealed") "sealed" "Trust.sealed" s_Trust_sealed,
  dOf ("_law_is_bool", none) "_law_is_bool" "_law_is_bool" s__law_is_bool,
  dOf ("_law_seals_right", none) "_law_seals_right" "_law_seals_right" s__law_seals_right,
  dOf ("law", none) "law" "law" s_law,
  dOf ("_law_caught", none) "_law_caught" "_law_caught" s__law_caught]
def txt : TxtD := ⟨factsL, defsL, CLS, [(("_law_named", none), "_law_named" ++ ".<locals>." ++ "<lambda>"), (("_law_seals_right", none), "_law_seals_right" ++ ".<locals>." ++ "<lambda>")]⟩
abbrev gd (w : World) (K : PySem.W.Frag) (mg : Str → Option Value) : Gd := ⟨w, K, mg, txt.tabs K, Clo.no⟩
theorem sc__law_caught : FnScope ["work", "found", "error"] ["work"] (defScope s__law_caught) := ⟨rfl, rfl, rfl, by decide +kernel, rfl, by decide +kernel, by decide +kernel⟩
theorem cD {K : PySem.W.Frag} {mg : Str → Option Value} {h : Heap} {X : Cx} (T : Txt txt K mg h) (hK : X.K = K) (hm : X.mg = mg) : CaughtDef X (Str.ofString "_law_caught") (He.ga K "_law_caught") ERRS mg :=
  caughtD (i := 24) (j := 42) (p := 43) (st := s__law_caught) T hK hm rfl rfl rfl sc__law_caught rfl rfl rfl rfl rfl (fun fd F => F.binds (ps := ["work"]) fun _ _ _ _ _ _ us hl => match us, hl with | [_], _ => rfl) fun c hc => by
    simp only [ERRS, List.mem_cons, List.not_mem_nil, or_false] at hc
    rcases hc with rfl | rfl | rfl | rfl
    · exact ⟨44, rfl, T.cls.gm "PurseError" (by decide +kernel)⟩
    · exact ⟨45, rfl, T.cls.gm "BadContent" (by decide +kernel)⟩
    · exact ⟨46, rfl, T.cls.gm "BadName" (by decide +kernel)⟩
    · exact ⟨47, rfl, T.cls.gm "BadWho" (by decide +kernel)⟩
section
variable {P : Program} {w : World} {K : PySem.W.Frag} {mg : Str → Option Value} {h : Heap} {base : Heap}
theorem sc_Trust___init__ : FnScope ["self"] ["self"] (defScope s_Trust___init__) := ⟨rfl, rfl, rfl, by decide +kernel, rfl, by decide +kernel, by decide +kernel⟩
theorem j_Trust___init__ (T : Txt txt K mg h) (TB : ∀ p ∈ txt.cs K, TabB base mg p.1 p.2) (L : Ints mg intL) (f : Addr) (cdv : Value) (A : Around) (outer : List Env) (s : Shared) (H : Hp) (E : XK) (hr : Room 0 (A.deeper (envOfC "Trust.__init__" (defScope s_Trust___init__) s.heap.objs.size f cdv))) :
    JSs (gd w K mg) (cxOf (L2.CX P w) P w K mg base ["self"] "Trust.__init__" (defScope s_Trust___init__) f cdv A outer s H E) b_Trust___init__ (defBody s_Trust___init__) :=
    (jss_cons (js_fld rfl (T.cls.gm "Trust" (by decide +kernel)) (T.cls.ins "Trust" (by decide +kernel)).cl (He.noat_ok (T.c.fact 2)) (je_var 0) (je_lstH ja_nil))
    (jss_cons (js_fld rfl (T.cls.gm "Trust" (by decide +kernel)) (T.cls.ins "Trust" (by decide +kernel)).cl (He.noat_ok (T.c.fact 1)) (je_var 0) je_dctH)
    (jss_one (js_fld rfl (T.cls.gm "Trust" (by decide +kernel)) (T.cls.ins "Trust" (by decide +kernel)).cl (He.noat_ok (T.c.fact 0)) (je_var 0) je_dctH))))
theorem o_Trust___init__ (T : Txt txt K mg h) (TB : ∀ p ∈ txt.cs K, TabB base mg p.1 p.2) (L : Ints mg intL) : MtP (gd w K mg) P base 1 (gaS K "Trust") "__init__" 1 f_Trust___init__ ∧ MkP (gd w K mg) P base 1 (gaS K "Trust") 1 f_Trust___init__ := by
  obtain ⟨fd, F⟩ := T.fun_ 0 (at_ := ("Trust", some "__init__")) (st := s_Trust___init__)
  have ok := fn_ok (P := P) (G := gd w K mg) (k := 0) F sc_Trust___init__ rfl rfl (by decide) fun cdv A outer s H E hr => j_Trust___init__ T TB L _ cdv A outer s H E hr
  exact ⟨⟨_, fd, ["self"], He.meth_ok (T.c.fact 3), F.binds (ps := ["self"]) fun _ _ _ _ _ _ us hl => match us, hl with | [_], _ => rfl, ok⟩, ⟨_, fd, ["self"], He.mkr_ok (T.c.fact 4), F.binds (ps := ["self"]) fun _ _ _ _ _ _ us hl => match us, hl with | [_], _ => rfl, ok⟩⟩
theorem sc_is_number : FnScope ["value", "low"] ["value", "low"] (defScope s_is_number) := ⟨rfl, rfl, rfl, by decide +kernel, rfl, by decide +kernel, by decide +kernel⟩
theorem j_is_number (T : Txt txt K mg h) (TB : ∀ p ∈ txt.cs K, TabB base mg p.1 p.2) (L : Ints mg intL) (f : Addr) (cdv : Value) (A : Around) (outer : List Env) (s : Shared) (H : Hp) (E : XK) (hr : Room 0 (A.deeper (envOfC "is_number" (defScope s_is_number) s.heap.objs.size f cdv))) :
    JSs (gd w K mg) (cxOf (L2.CX P w) P w K mg base ["value", "low"] "is_number" (defScope s_is_number) f cdv A outer s H E) b_is_number (defBody s_is_number) :=
    (jss_one (js_ret (je_and (je_isiB rfl (isiB_ok rfl T.cls (by decide)) rfl (T.free 5) rfl (T.free 7) boot_int (je_var 0)) (je_and (je_not (je_isiB rfl (isiB_ok rfl T.cls (by decide)) rfl (T.free 5) rfl (T.free 6) boot_bool (je_var 0))) (je_one (je_chain os_le os_lt (je_var 1) (je_var 0) (je_globI' rfl (L ("MOST_NUMBER", 1000000000000000000) (by simp [intL])))))))))
theorem o_is_number (T : Txt txt K mg h) (TB : ∀ p ∈ txt.cs K, TabB base mg p.1 p.2) (L : Ints mg intL) : FnP (gd w K mg) P base 1 "is_number" 2 f_is_number := by
  obtain ⟨fd, F⟩ := T.fun_ 1 (at_ := ("is_number", none)) (st := s_is_number)
  exact ⟨_, fd, ["value", "low"], (T.glo 8), F.kp, F.binds (ps := ["value", "low"]) fun _ _ _ _ _ _ us hl => match us, hl with | [_, _], _ => rfl, fn_ok (P := P) (G := gd w K mg) (k := 0) F sc_is_number rfl rfl (by decide) fun cdv A outer s H E hr => j_is_number T TB L _ cdv A outer s H E hr⟩
theorem sc_has_name_form : FnScope ["value"] ["value"] (defScope s_has_name_form) := ⟨rfl, rfl, rfl, by decide +kernel, rfl, by decide +kernel, by decide +kernel⟩
theorem j_has_name_form (T : Txt txt K mg h) (TB : ∀ p ∈ txt.cs K, TabB base mg p.1 p.2) (L : Ints mg intL) (f : Addr) (cdv : Value) (A : Around) (outer : List Env) (s : Shared) (H : Hp) (E : XK) (hr : Room 1 (A.deeper (envOfC "has_name_form" (defScope s_has_name_form) s.heap.objs.size f cdv))) :
    JSs (gd w K mg) (cxOf (L2.CX P w) P w K mg base ["value"] "has_name_form" (defScope s_has_name_form) f cdv A outer s H E) b_has_name_form (defBody s_has_name_form) :=
    (jss_one (js_ret (je_and (je_isiB rfl (isiB_ok rfl T.cls (by decide)) rfl (T.free 5) rfl (T.free 11) boot_tuple (je_var 0)) (je_and (je_cmp (os_eq rfl hr.units) (je_callB (cs_len rfl) rfl (T.free 10) boot_len (ja_cons (je_var 0) ja_nil)) je_int) (je_and (je_isiB rfl (isiB_ok rfl T.cls (by decide)) rfl (T.free 5) rfl (T.free 9) boot_str (je_sub rfl rfl (hu70 hr) (je_var 0) je_int)) (je_and (je_cmp (os_eq rfl hr.units) (je_sub rfl rfl (hu70 hr) (je_var 0) je_int) je_str) (je_one (je_call (FnP.at (o_is_number T TB L) ⟨rfl, rfl, rfl, rfl, rfl⟩ rfl) (hr.mono (by first | decide | omega)) rfl (ja_cons (je_sub rfl rfl (hu70 hr) (je_var 0) je_int) (ja_cons je_int ja_nil))))))))))
theorem o_has_name_form (T : Txt txt K mg h) (TB : ∀ p ∈ txt.cs K, TabB base mg p.1 p.2) (L : Ints mg intL) : FnP (gd w K mg) P base 2 "has_name_form" 1 f_has_name_form := by
  obtain ⟨fd, F⟩ := T.fun_ 2 (at_ := ("has_name_form", none)) (st := s_has_name_form)
  exact ⟨_, fd, ["value"], (T.glo 12), F.kp, F.binds (ps := ["value"]) fun _ _ _ _ _ _ us hl => match us, hl with | [_], _ => rfl, fn_ok (P := P) (G := gd w K mg) (k := 1) F sc_has_name_form rfl rfl (by decide) fun cdv A outer s H E hr => j_has_name_form T TB L _ cdv A outer s H E hr⟩
theorem sc_Trust_is_name : FnScope ["self", "value"] ["self", "value"] (defScope s_Trust_is_name) := ⟨rfl, rfl, rfl, by decide +kernel, rfl, by decide +kernel, by decide +kernel⟩
theorem j_Trust_is_name (T : Txt txt K mg h) (TB : ∀ p ∈ txt.cs K, TabB base mg p.1 p.2) (L : Ints mg intL) (f : Addr) (cdv : Value) (A : Around) (outer : List Env) (s : Shared) (H : Hp) (E : XK) (hr : Room 2 (A.deeper (envOfC "Trust.is_name" (defScope s_Trust_is_name) s.heap.objs.size f cdv))) :
    JSs (gd w K mg) (cxOf (L2.CX P w) P w K mg base ["self", "value"] "Trust.is_name" (defScope s_Trust_is_name) f cdv A outer s H E) b_Trust_is_name (defBody s_Trust_is_name) :=
    (jss_one (js_ret (je_and (je_call (FnP.at (o_has_name_form T TB L) ⟨rfl, rfl, rfl, rfl, rfl⟩ rfl) (hr.mono (by first | decide | omega)) rfl (ja_cons (je_var 1) ja_nil)) (je_one (je_cmp os_lt (je_sub rfl rfl (hu70 hr) (je_var 1) je_int) (je_callB (cs_len rfl) rfl (T.free 10) boot_len (ja_cons (je_fld rfl (T.cls.gm "Trust" (by decide +kernel)) (T.cls.ins "Trust" (by decide +kernel)).cl (He.noat_ok (T.c.fact 2)) (je_var 0)) ja_nil)))))))
theorem o_Trust_is_name (T : Txt txt K mg h) (TB : ∀ p ∈ txt.cs K, TabB base mg p.1 p.2) (L : Ints mg intL) : MtP (gd w K mg) P base 3 (gaS K "Trust") "is_name" 2 f_Trust_is_name := by
  obtain ⟨fd, F⟩ := T.fun_ 3 (at_ := ("Trust", some "is_name")) (st := s_Trust_is_name)
  exact ⟨_, fd, ["self", "value"], He.meth_ok (T.c.fact 13), F.binds (ps := ["self", "value"]) fun _ _ _ _ _ _ us hl => match us, hl with | [_, _], _ => rfl, fn_ok (P := P) (G := gd w K mg) (k := 2) F sc_Trust_is_name rfl rfl (by decide) fun cdv A outer s H E hr => j_Trust_is_name T TB L _ cdv A outer s H E hr⟩
theorem sc_Trust_content : FnScope ["self", "name"] ["self", "name"] (defScope s_Trust_content) := ⟨rfl, rfl, rfl, by decide +kernel, rfl, by decide +kernel, by decide +kernel⟩
theorem j_Trust_content (T : Txt txt K mg h) (TB : ∀ p ∈ txt.cs K, TabB base mg p.1 p.2) (L : Ints mg intL) (f : Addr) (cdv : Value) (A : Around) (outer : List Env) (s : Shared) (H : Hp) (E : XK) (hr : Room 3 (A.deeper (envOfC "Trust.content" (defScope s_Trust_content) s.heap.objs.size f cdv))) :
    JSs (gd w K mg) (cxOf (L2.CX P w) P w K mg base ["self", "name"] "Trust.content" (defScope s_Trust_content) f cdv A outer s H E) b_Trust_content (defBody s_Trust_content) :=
    (jss_cons (js_if (jt_not (jt_val (je_meth rfl (T.cls.gm "Trust" (by decide +kernel)) (T.cls.ins "Trust" (by decide +kernel)).cl (MtP.at (o_Trust_is_name T TB L) ⟨rfl, rfl, rfl, rfl, rfl⟩ rfl) (hr.mono (by first | decide | omega)) (je_var 0) (ja_cons (je_var 1) ja_nil)))) (jss_one (js_raise' (c := "BadName") rfl (He.exc_ok (T.c.fact 14)) (T.cls.gm "BadName" (by decide +kernel)) rfl rfl)) jss_nil)
    (jss_one (js_ret (je_sub rfl rfl (hu70 hr) (je_fld rfl (T.cls.gm "Trust" (by decide +kernel)) (T.cls.ins "Trust" (by decide +kernel)).cl (He.noat_ok (T.c.fact 2)) (je_var 0)) (je_sub rfl rfl (hu70 hr) (je_var 1) je_int)))))
theorem o_Trust_content (T : Txt txt K mg h) (TB : ∀ p ∈ txt.cs K, TabB base mg p.1 p.2) (L : Ints mg intL) : MtP (gd w K mg) P base 4 (gaS K "Trust") "content" 2 f_Trust_content := by
  obtain ⟨fd, F⟩ := T.fun_ 4 (at_ := ("Trust", some "content")) (st := s_Trust_content)
  exact ⟨_, fd, ["self", "name"], He.meth_ok (T.c.fact 15), F.binds (ps := ["self", "name"]) fun _ _ _ _ _ _ us hl => match us, hl with | [_, _], _ => rfl, fn_ok (P := P) (G := gd w K mg) (k := 3) F sc_Trust_content rfl rfl (by decide) fun cdv A outer s H E hr => j_Trust_content T TB L _ cdv A outer s H E hr⟩
theorem sc_is_plain : FnScope ["item"] ["item"] (defScope s_is_plain) := ⟨rfl, rfl, rfl, by decide +kernel, rfl, by decide +kernel, by decide +kernel⟩
theorem j_is_plain (T : Txt txt K mg h) (TB : ∀ p ∈ txt.cs K, TabB base mg p.1 p.2) (L : Ints mg intL) (f : Addr) (cdv : Value) (A : Around) (outer : List Env) (s : Shared) (H : Hp) (E : XK) (hr : Room 0 (A.deeper (envOfC "is_plain" (defScope s_is_plain) s.heap.objs.size f cdv))) :
    JSs (gd w K mg) (cxOf (L2.CX P w) P w K mg base ["item"] "is_plain" (defScope s_is_plain) f cdv A outer s H E) b_is_plain (defBody s_is_plain) :=
    (jss_cons (js_if (jt_pw (jw_or (jt_cmp os_is (je_var 0) je_none) (jw_or1 (jt_val (je_isiB rfl (isiB_ok rfl T.cls (by decide)) rfl (T.free 5) rfl (T.free 9) boot_str (je_var 0)))))) (jss_one (js_ret je_bool)) jss_nil)
    (jss_one (js_ret (je_and (je_isiB rfl (isiB_ok rfl T.cls (by decide)) rfl (T.free 5) rfl (T.free 7) boot_int (je_var 0)) (je_and (je_not (je_isiB rfl (isiB_ok rfl T.cls (by decide)) rfl (T.free 5) rfl (T.free 6) boot_bool (je_var 0))) (je_one (je_cmp os_lt (je_callB (cs_abs) rfl (T.free 16) boot_abs (ja_cons (je_var 0) ja_nil)) (je_globI' rfl (L ("MOST_NUMBER", 1000000000000000000) (by simp [intL]))))))))))
theorem o_is_plain (T : Txt txt K mg h) (TB : ∀ p ∈ txt.cs K, TabB base mg p.1 p.2) (L : Ints mg intL) : FnP (gd w K mg) P base 1 "is_plain" 1 f_is_plain := by
  obtain ⟨fd, F⟩ := T.fun_ 5 (at_ := ("is_plain", none)) (st := s_is_plain)
  exact ⟨_, fd, ["item"], (T.glo 17), F.kp, F.binds (ps := ["item"]) fun _ _ _ _ _ _ us hl => match us, hl with | [_], _ => rfl, fn_ok (P := P) (G := gd w K mg) (k := 0) F sc_is_plain rfl rfl (by decide) fun cdv A outer s H E hr => j_is_plain T TB L _ cdv A outer s H E hr⟩
theorem sc_parts_within : FnScope ["value", "found", "left", "item"] ["value"] (defScope s_parts_within) := ⟨rfl, rfl, rfl, by decide +kernel, rfl, by decide +kernel, by decide +kernel⟩
theorem j_parts_within (T : Txt txt K mg h) (TB : ∀ p ∈ txt.cs K, TabB base mg p.1 p.2) (L : Ints mg intL) (f : Addr) (cdv : Value) (A : Around) (outer : List Env) (s : Shared) (H : Hp) (E : XK) (hr : Room 2 (A.deeper (envOfC "parts_within" (defScope s_parts_within) s.heap.objs.size f cdv))) :
    JSs (gd w K mg) (cxOf (L2.CX P w) P w K mg base ["value", "found", "left", "item"] "parts_within" (defScope s_parts_within) f cdv A outer s H E) b_parts_within (defBody s_parts_within) :=
    (jss_cons (js_par (i := 1) (j := 2) rfl sc_parts_within.nd rfl rfl (by decide) rfl rfl (ja_cons (je_lstH ja_nil) (ja_cons (je_lstH (ja_cons (je_var 0) ja_nil)) ja_nil)) rfl)
    (jss_cons (js_while (passes_of rfl) (jt_cmp (os_ne rfl hr.units) (je_var 2) (je_lstD ja_nil)) (jss_cons (js_set (i := 3) sc_parts_within.nd rfl (by first | exact Or.inl rfl | exact Or.inr rfl) (je_mt0 PySem.F.slot_list_pop PySem.F.type_list_pop ms_pop (je_var 2)))
    (jss_one (js_if (jt_pw (jw_and (jt_val (je_isiB rfl (isiB_ok rfl T.cls (by decide)) rfl (T.free 5) rfl (T.free 11) boot_tuple (je_var 3))) (jw_and1 (jt_not (jt_val (je_call (FnP.at (o_has_name_form T TB L) ⟨rfl, rfl, rfl, rfl, rfl⟩ rfl) (hr.mono (by first | decide | omega)) rfl (ja_cons (je_var 3) ja_nil))))))) (jss_one (js_expr (je_mt PySem.F.slot_list_extend PySem.F.type_list_extend (ms_extend rfl) (je_var 2) (ja_cons (je_var 3) ja_nil)))) (jss_one (js_expr (je_mt PySem.F.slot_list_append PySem.F.type_list_append ms_append (je_var 1) (ja_cons (je_var 3) ja_nil))))))))
    (jss_one (js_ret (je_var 1)))))
theorem o_parts_within (T : Txt txt K mg h) (TB : ∀ p ∈ txt.cs K, TabB base mg p.1 p.2) (L : Ints mg intL) : FnP (gd w K mg) P base 3 "parts_within" 1 f_parts_within := by
  obtain ⟨fd, F⟩ := T.fun_ 6 (at_ := ("parts_within", none)) (st := s_parts_within)
  exact ⟨_, fd, ["value"], (T.glo 18), F.kp, F.binds (ps := ["value"]) fun _ _ _ _ _ _ us hl => match us, hl with | [_], _ => rfl, fn_ok (P := P) (G := gd w K mg) (k := 2) F sc_parts_within rfl rfl (by decide) fun cdv A outer s H E hr => j_parts_within T TB L _ cdv A outer s H E hr⟩
theorem sc_Trust_name : FnScope ["self", "content", "item"] ["self", "content"] (defScope s_Trust_name) := ⟨rfl, rfl, rfl, by decide +kernel, rfl, by decide +kernel, by decide +kernel⟩
theorem j_Trust_name (T : Txt txt K mg h) (TB : ∀ p ∈ txt.cs K, TabB base mg p.1 p.2) (L : Ints mg intL) (f : Addr) (cdv : Value) (A : Around) (outer : List Env) (s : Shared) (H : Hp) (E : XK) (hr : Room 3 (A.deeper (envOfC "Trust.name" (defScope s_Trust_name) s.heap.objs.size f cdv))) :
    JSs (gd w K mg) (cxOf (L2.CX P w) P w K mg base ["self", "content", "item"] "Trust.name" (defScope s_Trust_name) f cdv A outer s H E) b_Trust_name (defBody s_Trust_name) :=
    (jss_cons (js_if (jt_not (jt_val (je_callB (cs_all rfl rfl) rfl (T.free 19) boot_all (ja_cons (je_comp (own := [("item", 2)]) rfl sc_Trust_name.nd (ji_seq rfl (je_call (FnP.at (o_parts_within T TB L) ⟨rfl, rfl, rfl, rfl, rfl⟩ rfl) (hr.mono (by first | decide | omega)) rfl (ja_cons (je_var 1) ja_nil))) (blkOk_by (own := [("item", 2)]) (by rfl)) (by decide) (jgb_name sc_Trust_name.nd rfl (fun _ _ _ _ _ => (by first | exact Or.inl rfl | exact Or.inr rfl)) (fun _ _ _ _ _ => by first | exact Or.inr rfl | exact Or.inl rfl)) (fun _ _ _ _ _ => jts_nil) (fun _ _ _ _ _ => (je_or (je_meth rfl (T.cls.gm "Trust" (by decide +kernel)) (T.cls.ins "Trust" (by decide +kernel)).cl (MtP.at (o_Trust_is_name T TB L) ⟨rfl, rfl, rfl, rfl, rfl⟩ rfl) (hr.mono (by first | decide | omega)) (je_var 0) (ja_cons (je_var 2) ja_nil)) (je_one (je_call (FnP.at (o_is_plain T TB L) ⟨rfl, rfl, rfl, rfl, rfl⟩ rfl) (hr.mono (by first | decide | omega)) rfl (ja_cons (je_var 2) ja_nil)))))) ja_nil)))) (jss_one (js_raise' (c := "BadContent") rfl (He.exc_ok (T.c.fact 20)) (T.cls.gm "BadContent" (by decide +kernel)) rfl rfl)) jss_nil)
    (jss_cons (js_if (jt_cmp (os_notIn rfl rfl (hu70 hr)) (je_var 1) (je_fld rfl (T.cls.gm "Trust" (by decide +kernel)) (T.cls.ins "Trust" (by decide +kernel)).cl (He.noat_ok (T.c.fact 1)) (je_var 0)) (by first | exact nomark _ | rfl | with_unfolding_all rfl)) (jss_cons (js_put rfl rfl (hu70 hr) (je_fld rfl (T.cls.gm "Trust" (by decide +kernel)) (T.cls.ins "Trust" (by decide +kernel)).cl (He.noat_ok (T.c.fact 1)) (je_var 0)) (je_var 1) (je_tup (ja_cons je_str (ja_cons (je_callB (cs_len rfl) rfl (T.free 10) boot_len (ja_cons (je_fld rfl (T.cls.gm "Trust" (by decide +kernel)) (T.cls.ins "Trust" (by decide +kernel)).cl (He.noat_ok (T.c.fact 2)) (je_var 0)) ja_nil)) ja_nil))))
    (jss_one (js_expr (je_mt PySem.F.slot_list_append PySem.F.type_list_append ms_append (je_fld rfl (T.cls.gm "Trust" (by decide +kernel)) (T.cls.ins "Trust" (by decide +kernel)).cl (He.noat_ok (T.c.fact 2)) (je_var 0)) (ja_cons (je_var 1) ja_nil))))) jss_nil)
    (jss_one (js_ret (je_sub rfl rfl (hu70 hr) (je_fld rfl (T.cls.gm "Trust" (by decide +kernel)) (T.cls.ins "Trust" (by decide +kernel)).cl (He.noat_ok (T.c.fact 1)) (je_var 0)) (je_var 1))))))
theorem o_Trust_name (T : Txt txt K mg h) (TB : ∀ p ∈ txt.cs K, TabB base mg p.1 p.2) (L : Ints mg intL) : MtP (gd w K mg) P base 4 (gaS K "Trust") "name" 2 f_Trust_name := by
  obtain ⟨fd, F⟩ := T.fun_ 7 (at_ := ("Trust", some "name")) (st := s_Trust_name)
  exact ⟨_, fd, ["self", "content"], He.meth_ok (T.c.fact 21), F.binds (ps := ["self", "content"]) fun _ _ _ _ _ _ us hl => match us, hl with | [_, _], _ => rfl, fn_ok (P := P) (G := gd w K mg) (k := 3) F sc_Trust_name rfl rfl (by decide) fun cdv A outer s H E hr => j_Trust_name T TB L _ cdv A outer s H E hr⟩
theorem sc_Trust_size : FnScope ["self"] ["self"] (defScope s_Trust_size) := ⟨rfl, rfl, rfl, by decide +kernel, rfl, by decide +kernel, by decide +kernel⟩
theorem j_Trust_size (T : Txt txt K mg h) (TB : ∀ p ∈ txt.cs K, TabB base mg p.1 p.2) (L : Ints mg intL) (f : Addr) (cdv : Value) (A : Around) (outer : List Env) (s : Shared) (H : Hp) (E : XK) (hr : Room 0 (A.deeper (envOfC "Trust.size" (defScope s_Trust_size) s.heap.objs.size f cdv))) :
    JSs (gd w K mg) (cxOf (L2.CX P w) P w K mg base ["self"] "Trust.size" (defScope s_Trust_size) f cdv A outer s H E) b_Trust_size (defBody s_Trust_size) :=
    (jss_one (js_ret (je_callB (cs_len rfl) rfl (T.free 10) boot_len (ja_cons (je_fld rfl (T.cls.gm "Trust" (by decide +kernel)) (T.cls.ins "Trust" (by decide +kernel)).cl (He.noat_ok (T.c.fact 2)) (je_var 0)) ja_nil))))
theorem o_Trust_size (T : Txt txt K mg h) (TB : ∀ p ∈ txt.cs K, TabB base mg p.1 p.2) (L : Ints mg intL) : MtP (gd w K mg) P base 1 (gaS K "Trust") "size" 1 f_Trust_size := by
  obtain ⟨fd, F⟩ := T.fun_ 8 (at_ := ("Trust", some "size")) (st := s_Trust_size)
  exact ⟨_, fd, ["self"], He.meth_ok (T.c.fact 22), F.binds (ps := ["self"]) fun _ _ _ _ _ _ us hl => match us, hl with | [_], _ => rfl, fn_ok (P := P) (G := gd w K mg) (k := 0) F sc_Trust_size rfl rfl (by decide) fun cdv A outer s H E hr => j_Trust_size T TB L _ cdv A outer s H E hr⟩
theorem sc__law_begun : FnScope ["script", "large", "grain"] ["script"] (defScope s__law_begun) := ⟨rfl, rfl, rfl, by decide +kernel, rfl, by decide +kernel, by decide +kernel⟩
theorem j__law_begun (T : Txt txt K mg h) (TB : ∀ p ∈ txt.cs K, TabB base mg p.1 p.2) (L : Ints mg intL) (f : Addr) (cdv : Value) (A : Around) (outer : List Env) (s : Shared) (H : Hp) (E : XK) (hr : Room 0 (A.deeper (envOfC "_law_begun" (defScope s__law_begun) s.heap.objs.size f cdv))) :
    JSs (gd w K mg) (cxOf (L2.CX P w) P w K mg base ["script", "large", "grain"] "_law_begun" (defScope s__law_begun) f cdv A outer s H E) b__law_begun (defBody s__law_begun) :=
    (jss_cons (js_setLcH (own := [("grain", 2)]) rfl sc__law_begun.nd rfl rfl (sw_true rfl rfl rfl rfl) (ji_seq rfl (je_var 0)) (blkOk_by (own := [("grain", 2)]) (by rfl)) (by decide) (jgb_name sc__law_begun.nd rfl (fun _ _ _ _ _ => (by first | exact Or.inl rfl | exact Or.inr rfl)) (fun _ _ _ _ _ => by first | exact Or.inr rfl | exact Or.inl rfl)) (fun _ _ _ _ _ => (jts_one (jt_cmp os_ge (je_callB (cs_abs) rfl (T.free 16) boot_abs (ja_cons (je_var 2) ja_nil)) (je_op os_pow je_int je_int)))) (fun _ _ _ _ _ => (je_op os_sub (je_callB (cs_abs) rfl (T.free 16) boot_abs (ja_cons (je_var 2) ja_nil)) (je_op os_pow je_int je_int))))
    (jss_one (js_ret (je_disp rfl (jp_cons (je_var 1) (jp_cons je_int (jp_cons (je_comp (own := [("grain", 2)]) rfl sc__law_begun.nd (ji_seq rfl (je_var 0)) (blkOk_by (own := [("grain", 2)]) (by rfl)) (by decide) (jgb_name sc__law_begun.nd rfl (fun _ _ _ _ _ => (by first | exact Or.inl rfl | exact Or.inr rfl)) (fun _ _ _ _ _ => by first | exact Or.inr rfl | exact Or.inl rfl)) (fun _ _ _ _ _ => jts_nil) (fun _ _ _ _ _ => (je_callB (cs_abs) rfl (T.free 16) boot_abs (ja_cons (je_var 2) ja_nil)))) (jp_cons je_int jp_nil)))) (by decide +kernel) (by simp) (by decide)))))
theorem o__law_begun (T : Txt txt K mg h) (TB : ∀ p ∈ txt.cs K, TabB base mg p.1 p.2) (L : Ints mg intL) : FnP (gd w K mg) P base 1 "_law_begun" 1 f__law_begun := by
  obtain ⟨fd, F⟩ := T.fun_ 9 (at_ := ("_law_begun", none)) (st := s__law_begun)
  exact ⟨_, fd, ["script"], (T.glo 23), F.kp, F.binds (ps := ["script"]) fun _ _ _ _ _ _ us hl => match us, hl with | [_], _ => rfl, fn_ok (P := P) (G := gd w K mg) (k := 0) F sc__law_begun rfl rfl (by decide) fun cdv A outer s H E hr => j__law_begun T TB L _ cdv A outer s H E hr⟩
theorem sc__law_blend : FnScope ["tape", "turn", "found", "great", "blended", "grain"] ["tape"] (defScope s__law_blend) := ⟨rfl, rfl, rfl, by decide +kernel, rfl, by decide +kernel, by decide +kernel⟩
theorem j__law_blend (T : Txt txt K mg h) (TB : ∀ p ∈ txt.cs K, TabB base mg p.1 p.2) (L : Ints mg intL) (f : Addr) (cdv : Value) (A : Around) (outer : List Env) (s : Shared) (H : Hp) (E : XK) (hr : Room 0 (A.deeper (envOfC "_law_blend" (defScope s__law_blend) s.heap.objs.size f cdv))) :
    JSs (gd w K mg) (cxOf (L2.CX P w) P w K mg base ["tape", "turn", "found", "great", "blended", "grain"] "_law_blend" (defScope s__law_blend) f cdv A outer s H E) b__law_blend (defBody s__law_blend) :=
    (jss_cons (js_put rfl rfl (hu70 hr) (je_var 0) je_str (je_op (os_add rfl) (je_sub rfl rfl (hu70 hr) (je_var 0) je_str) je_int))
    (jss_cons (js_par (i := 1) (j := 2) rfl sc__law_blend.nd rfl rfl (by decide) rfl rfl (ja_cons (je_callTy (cs_int) rfl (T.free 7) boot_int (ja_cons (je_sub rfl rfl (hu70 hr) (je_var 0) je_str) ja_nil)) (ja_cons je_int ja_nil)) rfl)
    (jss_cons (js_for (passes_of rfl) rfl (ji_seq rfl (je_lstD (ja_cons je_int (ja_cons je_int (ja_cons je_int ja_nil))))) (jg_name sc__law_blend.nd rfl (by first | exact Or.inl rfl | exact Or.inr rfl)) (jss_cons (js_set (i := 4) sc__law_blend.nd rfl (by first | exact Or.inl rfl | exact Or.inr rfl) (je_op os_mod (je_op (os_add rfl) (je_op os_mul (je_var 1) je_int) (je_op os_fdiv (je_var 3) je_int)) (je_var 3)))
    (jss_cons (js_for (passes_of rfl) rfl (ji_seq rfl (je_sub rfl rfl (hu70 hr) (je_var 0) je_str)) (jg_name sc__law_blend.nd rfl (by first | exact Or.inl rfl | exact Or.inr rfl)) (jss_one (js_set (i := 4) sc__law_blend.nd rfl (by first | exact Or.inl rfl | exact Or.inr rfl) (je_op os_mod (je_op (os_add rfl) (je_op os_mul (je_var 4) je_int) (je_callTy (cs_int) rfl (T.free 7) boot_int (ja_cons (je_var 5) ja_nil))) (je_var 3)))))
    (jss_one (js_set (i := 2) sc__law_blend.nd rfl (by first | exact Or.inl rfl | exact Or.inr rfl) (je_op (os_add rfl) (je_op os_mul (je_var 2) je_int) (je_op os_mod (je_op os_pow (je_var 4) je_int) (je_var 3))))))))
    (jss_one (js_ret (je_var 2))))))
theorem o__law_blend (T : Txt txt K mg h) (TB : ∀ p ∈ txt.cs K, TabB base mg p.1 p.2) (L : Ints mg intL) : FnP (gd w K mg) P base 1 "_law_blend" 1 f__law_blend := by
  obtain ⟨fd, F⟩ := T.fun_ 10 (at_ := ("_law_blend", none)) (st := s__law_blend)
  exact ⟨_, fd, ["tape"], (T.glo 24), F.kp, F.binds (ps := ["tape"]) fun _ _ _ _ _ _ us hl => match us, hl with | [_], _ => rfl, fn_ok (P := P) (G := gd w K mg) (k := 0) F sc__law_blend rfl rfl (by decide) fun cdv A outer s H E hr => j__law_blend T TB L _ cdv A outer s H E hr⟩
theorem sc__law_draw : FnScope ["tape", "size", "found"] ["tape", "size"] (defScope s__law_draw) := ⟨rfl, rfl, rfl, by decide +kernel, rfl, by decide +kernel, by decide +kernel⟩
theorem j__law_draw (T : Txt txt K mg h) (TB : ∀ p ∈ txt.cs K, TabB base mg p.1 p.2) (L : Ints mg intL) (f : Addr) (cdv : Value) (A : Around) (outer : List Env) (s : Shared) (H : Hp) (E : XK) (hr : Room 1 (A.deeper (envOfC "_law_draw" (defScope s__law_draw) s.heap.objs.size f cdv))) :
    JSs (gd w K mg) (cxOf (L2.CX P w) P w K mg base ["tape", "size", "found"] "_law_draw" (defScope s__law_draw) f cdv A outer s H E) b__law_draw (defBody s__law_draw) :=
    (jss_cons (js_if (jt_cmp (os_eq rfl hr.units) (je_sub rfl rfl (hu70 hr) (je_var 0) je_str) je_int) (jss_one (js_put rfl rfl (hu70 hr) (je_var 0) je_str (je_if (jt_cmp (os_ne rfl hr.units) (je_sub rfl rfl (hu70 hr) (je_var 0) je_str) (je_lstD ja_nil)) (je_mt PySem.F.slot_list_pop PySem.F.type_list_pop ms_popAt (je_sub rfl rfl (hu70 hr) (je_var 0) je_str) (ja_cons je_int ja_nil)) (je_call (FnP.at (o__law_blend T TB L) ⟨rfl, rfl, rfl, rfl, rfl⟩ rfl) (hr.mono (by first | decide | omega)) rfl (ja_cons (je_var 0) ja_nil))))) jss_nil)
    (jss_cons (js_set (i := 2) sc__law_draw.nd rfl (by first | exact Or.inl rfl | exact Or.inr rfl) (je_op os_mod (je_callTy (cs_int) rfl (T.free 7) boot_int (ja_cons (je_sub rfl rfl (hu70 hr) (je_var 0) je_str) ja_nil)) (je_var 1)))
    (jss_cons (js_put rfl rfl (hu70 hr) (je_var 0) je_str (je_op os_fdiv (je_callTy (cs_int) rfl (T.free 7) boot_int (ja_cons (je_sub rfl rfl (hu70 hr) (je_var 0) je_str) ja_nil)) (je_var 1)))
    (jss_one (js_ret (je_var 2))))))
theorem o__law_draw (T : Txt txt K mg h) (TB : ∀ p ∈ txt.cs K, TabB base mg p.1 p.2) (L : Ints mg intL) : FnP (gd w K mg) P base 2 "_law_draw" 2 f__law_draw := by
  obtain ⟨fd, F⟩ := T.fun_ 11 (at_ := ("_law_draw", none)) (st := s__law_draw)
  exact ⟨_, fd, ["tape", "size"], (T.glo 25), F.kp, F.binds (ps := ["tape", "size"]) fun _ _ _ _ _ _ us hl => match us, hl with | [_, _], _ => rfl, fn_ok (P := P) (G := gd w K mg) (k := 1) F sc__law_draw rfl rfl (by decide) fun cdv A outer s H E hr => j__law_draw T TB L _ cdv A outer s H E hr⟩
theorem sc__law_pick : FnScope ["tape", "several"] ["tape", "several"] (defScope s__law_pick) := ⟨rfl, rfl, rfl, by decide +kernel, rfl, by decide +kernel, by decide +kernel⟩
theorem j__law_pick (T : Txt txt K mg h) (TB : ∀ p ∈ txt.cs K, TabB base mg p.1 p.2) (L : Ints mg intL) (f : Addr) (cdv : Value) (A : Around) (outer : List Env) (s : Shared) (H : Hp) (E : XK) (hr : Room 2 (A.deeper (envOfC "_law_pick" (defScope s__law_pick) s.heap.objs.size f cdv))) :
    JSs (gd w K mg) (cxOf (L2.CX P w) P w K mg base ["tape", "several"] "_law_pick" (defScope s__law_pick) f cdv A outer s H E) b__law_pick (defBody s__law_pick) :=
    (jss_one (js_ret (je_sub rfl rfl (hu70 hr) (je_var 1) (je_call (FnP.at (o__law_draw T TB L) ⟨rfl, rfl, rfl, rfl, rfl⟩ rfl) (hr.mono (by first | decide | omega)) rfl (ja_cons (je_var 0) (ja_cons (je_callB (cs_len rfl) rfl (T.free 10) boot_len (ja_cons (je_var 1) ja_nil)) ja_nil))))))
theorem o__law_pick (T : Txt txt K mg h) (TB : ∀ p ∈ txt.cs K, TabB base mg p.1 p.2) (L : Ints mg intL) : FnP (gd w K mg) P base 3 "_law_pick" 2 f__law_pick := by
  obtain ⟨fd, F⟩ := T.fun_ 12 (at_ := ("_law_pick", none)) (st := s__law_pick)
  exact ⟨_, fd, ["tape", "several"], (T.glo 26), F.kp, F.binds (ps := ["tape", "several"]) fun _ _ _ _ _ _ us hl => match us, hl with | [_, _], _ => rfl, fn_ok (P := P) (G := gd w K mg) (k := 2) F sc__law_pick rfl rfl (by decide) fun cdv A outer s H E hr => j__law_pick T TB L _ cdv A outer s H E hr⟩
theorem sc__law_content : FnScope ["tape", "given", "depth", "way", "items", "item"] ["tape", "given", "depth"] (defScope s__law_content) := ⟨rfl, rfl, rfl, by decide +kernel, rfl, by decide +kernel, by decide +kernel⟩
theorem j__law_content (T : Txt txt K mg h) (TB : ∀ p ∈ txt.cs K, TabB base mg p.1 p.2) (L : Ints mg intL) {self : Fn} {k : Nat} (hk : 3 ≤ k) (hself : FnP (gd w K mg) P base k "_law_content" 3 self) (f : Addr) (cdv : Value) (A : Around) (outer : List Env) (s : Shared) (H : Hp) (E : XK) (hr : Room k (A.deeper (envOfC "_law_content" (defScope s__law_content) s.heap.objs.size f cdv))) :
    JSs (gd w K mg) (cxOf (L2.CX P w) P w K mg base ["tape", "given", "depth", "way", "items", "item"] "_law_content" (defScope s__law_content) f cdv A outer s H E) (b__law_content self) (defBody s__law_content) :=
    (jss_cons (js_set (i := 3) sc__law_content.nd rfl (by first | exact Or.inl rfl | exact Or.inr rfl) (je_call (FnP.at (o__law_draw T TB L) ⟨rfl, rfl, rfl, rfl, rfl⟩ rfl) (hr.mono (by first | decide | omega)) rfl (ja_cons (je_var 0) (ja_cons (je_if (jt_cmp os_gt (je_var 2) je_int) je_int je_int) ja_nil))))
    (jss_cons (js_if (jt_cmp (os_eq rfl hr.units) (je_var 3) je_int) (jss_one (js_ret (je_call (FnP.at (o__law_pick T TB L) ⟨rfl, rfl, rfl, rfl, rfl⟩ rfl) (hr.mono (by first | decide | omega)) rfl (ja_cons (je_var 0) (ja_cons (je_lstD (ja_cons je_int (ja_cons (je_un us_neg je_int) (ja_cons je_int (ja_cons (je_op os_pow je_int je_int) (ja_cons je_int (ja_cons je_int ja_nil))))))) ja_nil))))) jss_nil)
    (jss_cons (js_if (jt_cmp (os_eq rfl hr.units) (je_var 3) je_int) (jss_one (js_ret (je_call (FnP.at (o__law_pick T TB L) ⟨rfl, rfl, rfl, rfl, rfl⟩ rfl) (hr.mono (by first | decide | omega)) rfl (ja_cons (je_var 0) (ja_cons (je_lstD (ja_cons je_str (ja_cons je_str (ja_cons je_str (ja_cons je_str (ja_cons je_none ja_nil)))))) ja_nil))))) jss_nil)
    (jss_cons (js_if (jt_pw (jw_and (jt_cmp (os_eq rfl hr.units) (je_var 3) je_int) (jw_and1 (jt_cmp os_gt (je_var 1) je_int)))) (jss_one (js_ret (je_tup (ja_cons je_str (ja_cons (je_call (FnP.at (o__law_draw T TB L) ⟨rfl, rfl, rfl, rfl, rfl⟩ rfl) (hr.mono (by first | decide | omega)) rfl (ja_cons (je_var 0) (ja_cons (je_var 1) ja_nil))) ja_nil))))) jss_nil)
    (jss_cons (js_if (jt_cmp os_lt (je_var 3) je_int) (jss_one (js_ret (je_call (FnP.at (o__law_pick T TB L) ⟨rfl, rfl, rfl, rfl, rfl⟩ rfl) (hr.mono (by first | decide | omega)) rfl (ja_cons (je_var 0) (ja_cons (je_lstD (ja_cons je_none (ja_cons je_str (ja_cons je_int ja_nil)))) ja_nil))))) jss_nil)
    (jss_cons (js_setLc (own := [("item", 5)]) rfl sc__law_content.nd rfl rfl (sw_true rfl rfl rfl rfl) (ji_range1 rfl (T.free 27) (je_call (FnP.at (o__law_draw T TB L) ⟨rfl, rfl, rfl, rfl, rfl⟩ rfl) (hr.mono (by first | decide | omega)) rfl (ja_cons (je_var 0) (ja_cons je_int ja_nil)))) (blkOk_by (own := [("item", 5)]) (by rfl)) (by decide) (jgb_name sc__law_content.nd rfl (fun _ _ _ _ _ => (by first | exact Or.inl rfl | exact Or.inr rfl)) (fun _ _ _ _ _ => by first | exact Or.inr rfl | exact Or.inl rfl)) (fun _ _ _ _ _ => jts_nil) (fun _ _ _ _ _ => (je_call (FnP.at hself ⟨rfl, rfl, rfl, rfl, rfl⟩ rfl) (hr.mono (by omega)) rfl (ja_cons (je_var 0) (ja_cons (je_var 1) (ja_cons (je_op os_sub (je_var 2) je_int) ja_nil))))))
    (jss_one (js_ret (je_callTy (cs_tuple rfl) rfl (T.free 11) boot_tuple (ja_cons (je_op (os_add rfl) (je_if (jt_pw (jw_and (jt_cmp (os_eq rfl hr.units) (je_var 3) je_int) (jw_and1 (jt_cmp (os_ne rfl hr.units) (je_callB (cs_len rfl) rfl (T.free 10) boot_len (ja_cons (je_var 4) ja_nil)) je_int)))) (je_lstD (ja_cons je_str ja_nil)) (je_lstD ja_nil)) (je_var 4)) ja_nil))))))))))
theorem r__law_content (T : Txt txt K mg h) (TB : ∀ p ∈ txt.cs K, TabB base mg p.1 p.2) (L : Ints mg intL) : ∀ j : Nat, FnP (gd w K mg) P base (4 + j) "_law_content" 3 (fr__law_content j)
  | 0 => by
    obtain ⟨fd, F⟩ := T.fun_ 13 (at_ := ("_law_content", none)) (st := s__law_content)
    exact ⟨_, fd, ["tape", "given", "depth"], (T.glo 28), F.kp, F.binds (ps := ["tape", "given", "depth"]) fun _ _ _ _ _ _ us hl => match us, hl with | [_, _, _], _ => rfl, (fn_bad (k := 3) F sc__law_content rfl)⟩
  | j + 1 => by
    obtain ⟨fd, F⟩ := T.fun_ 13 (at_ := ("_law_content", none)) (st := s__law_content)
    exact ⟨_, fd, ["tape", "given", "depth"], (T.glo 28), F.kp, F.binds (ps := ["tape", "given", "depth"]) fun _ _ _ _ _ _ us hl => match us, hl with | [_, _, _], _ => rfl, fn_ok (G := gd w K mg) (k := 4 + j) F sc__law_content rfl rfl (by decide) fun cdv A outer s H E hr => j__law_content T TB L (by omega) (r__law_content T TB L j) _ cdv A outer s H E hr⟩
theorem o__law_content (T : Txt txt K mg h) (TB : ∀ p ∈ txt.cs K, TabB base mg p.1 p.2) (L : Ints mg intL) : FnP (gd w K mg) P base 18 "_law_content" 3 f__law_content := r__law_content T TB L 14
theorem sc__law_is_number : FnScope ["thing", "low", "high"] ["thing", "low", "high"] (defScope s__law_is_number) := ⟨rfl, rfl, rfl, by decide +kernel, rfl, by decide +kernel, by decide +kernel⟩
theorem j__law_is_number (T : Txt txt K mg h) (TB : ∀ p ∈ txt.cs K, TabB base mg p.1 p.2) (L : Ints mg intL) (f : Addr) (cdv : Value) (A : Around) (outer : List Env) (s : Shared) (H : Hp) (E : XK) (hr : Room 0 (A.deeper (envOfC "_law_is_number" (defScope s__law_is_number) s.heap.objs.size f cdv))) :
    JSs (gd w K mg) (cxOf (L2.CX P w) P w K mg base ["thing", "low", "high"] "_law_is_number" (defScope s__law_is_number) f cdv A outer s H E) b__law_is_number (defBody s__law_is_number) :=
    (jss_one (js_ret (je_and (je_isiB rfl (isiB_ok rfl T.cls (by decide)) rfl (T.free 5) rfl (T.free 7) boot_int (je_var 0)) (je_and (je_not (je_isiB rfl (isiB_ok rfl T.cls (by decide)) rfl (T.free 5) rfl (T.free 6) boot_bool (je_var 0))) (je_one (je_chain os_le os_le (je_var 1) (je_var 0) (je_var 2)))))))
theorem o__law_is_number (T : Txt txt K mg h) (TB : ∀ p ∈ txt.cs K, TabB base mg p.1 p.2) (L : Ints mg intL) : FnP (gd w K mg) P base 1 "_law_is_number" 3 f__law_is_number := by
  obtain ⟨fd, F⟩ := T.fun_ 14 (at_ := ("_law_is_number", none)) (st := s__law_is_number)
  exact ⟨_, fd, ["thing", "low", "high"], (T.glo 29), F.kp, F.binds (ps := ["thing", "low", "high"]) fun _ _ _ _ _ _ us hl => match us, hl with | [_, _, _], _ => rfl, fn_ok (P := P) (G := gd w K mg) (k := 0) F sc__law_is_number rfl rfl (by decide) fun cdv A outer s H E hr => j__law_is_number T TB L _ cdv A outer s H E hr⟩
theorem sc__law_is_content : FnScope ["thing", "given", "depth", "item"] ["thing", "given", "depth"] (defScope s__law_is_content) := ⟨rfl, rfl, rfl, by decide +kernel, rfl, by decide +kernel, by decide +kernel⟩
theorem j__law_is_content (T : Txt txt K mg h) (TB : ∀ p ∈ txt.cs K, TabB base mg p.1 p.2) (L : Ints mg intL) {self : Fn} {k : Nat} (hk : 1 ≤ k) (hself : FnP (gd w K mg) P base k "_law_is_content" 3 self) (f : Addr) (cdv : Value) (A : Around) (outer : List Env) (s : Shared) (H : Hp) (E : XK) (hr : Room k (A.deeper (envOfC "_law_is_content" (defScope s__law_is_content) s.heap.objs.size f cdv))) :
    JSs (gd w K mg) (cxOf (L2.CX P w) P w K mg base ["thing", "given", "depth", "item"] "_law_is_content" (defScope s__law_is_content) f cdv A outer s H E) (b__law_is_content self) (defBody s__law_is_content) :=
    (jss_cons (js_if (jt_pw (jw_or (jt_cmp os_is (je_var 0) je_none) (jw_or1 (jt_val (je_isiB rfl (isiB_ok rfl T.cls (by decide)) rfl (T.free 5) rfl (T.free 9) boot_str (je_var 0)))))) (jss_one (js_ret je_bool)) jss_nil)
    (jss_cons (js_if (jt_pw (jw_and (jt_val (je_isiB rfl (isiB_ok rfl T.cls (by decide)) rfl (T.free 5) rfl (T.free 7) boot_int (je_var 0))) (jw_and1 (jt_not (jt_val (je_isiB rfl (isiB_ok rfl T.cls (by decide)) rfl (T.free 5) rfl (T.free 6) boot_bool (je_var 0))))))) (jss_one (js_ret je_bool)) jss_nil)
    (jss_cons (js_if (jt_pw (jw_or (jt_not (jt_val (je_isiB rfl (isiB_ok rfl T.cls (by decide)) rfl (T.free 5) rfl (T.free 11) boot_tuple (je_var 0)))) (jw_or1 (jt_cmp (os_eq rfl hr.units) (je_var 2) je_int)))) (jss_one (js_ret je_bool)) jss_nil)
    (jss_cons (js_if (jt_pw (jw_and (jt_cmp (os_eq rfl hr.units) (je_callB (cs_len rfl) rfl (T.free 10) boot_len (ja_cons (je_var 0) ja_nil)) je_int) (jw_and (jt_val (je_isiB rfl (isiB_ok rfl T.cls (by decide)) rfl (T.free 5) rfl (T.free 9) boot_str (je_sub rfl rfl (hu70 hr) (je_var 0) je_int))) (jw_and (jt_cmp (os_eq rfl hr.units) (je_sub rfl rfl (hu70 hr) (je_var 0) je_int) je_str) (jw_and1 (jt_val (je_call (FnP.at (o__law_is_number T TB L) ⟨rfl, rfl, rfl, rfl, rfl⟩ rfl) (hr.mono (by first | decide | omega)) rfl (ja_cons (je_sub rfl rfl (hu70 hr) (je_var 0) je_int) (ja_cons je_int (ja_cons (je_op os_pow je_int je_int) ja_nil)))))))))) (jss_one (js_ret (je_cmp os_lt (je_sub rfl rfl (hu70 hr) (je_var 0) je_int) (je_var 1)))) jss_nil)
    (jss_one (js_ret (je_cmp (os_eq rfl hr.units) (je_comp (own := [("item", 3)]) rfl sc__law_is_content.nd (ji_seq rfl (je_var 0)) (blkOk_by (own := [("item", 3)]) (by rfl)) (by decide) (jgb_name sc__law_is_content.nd rfl (fun _ _ _ _ _ => (by first | exact Or.inl rfl | exact Or.inr rfl)) (fun _ _ _ _ _ => by first | exact Or.inr rfl | exact Or.inl rfl)) (fun _ _ _ _ _ => (jts_one (jt_not (jt_val (je_call (FnP.at hself ⟨rfl, rfl, rfl, rfl, rfl⟩ rfl) (hr.mono (by omega)) rfl (ja_cons (je_var 3) (ja_cons (je_var 1) (ja_cons (je_op os_sub (je_var 2) je_int) ja_nil)))))))) (fun _ _ _ _ _ => (je_var 3))) (je_lstD ja_nil))))))))
theorem r__law_is_content (T : Txt txt K mg h) (TB : ∀ p ∈ txt.cs K, TabB base mg p.1 p.2) (L : Ints mg intL) : ∀ j : Nat, FnP (gd w K mg) P base (2 + j) "_law_is_content" 3 (fr__law_is_content j)
  | 0 => by
    obtain ⟨fd, F⟩ := T.fun_ 15 (at_ := ("_law_is_content", none)) (st := s__law_is_content)
    exact ⟨_, fd, ["thing", "given", "depth"], (T.glo 30), F.kp, F.binds (ps := ["thing", "given", "depth"]) fun _ _ _ _ _ _ us hl => match us, hl with | [_, _, _], _ => rfl, (fn_bad (k := 1) F sc__law_is_content rfl)⟩
  | j + 1 => by
    obtain ⟨fd, F⟩ := T.fun_ 15 (at_ := ("_law_is_content", none)) (st := s__law_is_content)
    exact ⟨_, fd, ["thing", "given", "depth"], (T.glo 30), F.kp, F.binds (ps := ["thing", "given", "depth"]) fun _ _ _ _ _ _ us hl => match us, hl with | [_, _, _], _ => rfl, fn_ok (G := gd w K mg) (k := 2 + j) F sc__law_is_content rfl rfl (by decide) fun cdv A outer s H E hr => j__law_is_content T TB L (by omega) (r__law_is_content T TB L j) _ cdv A outer s H E hr⟩
theorem o__law_is_content (T : Txt txt K mg h) (TB : ∀ p ∈ txt.cs K, TabB base mg p.1 p.2) (L : Ints mg intL) : FnP (gd w K mg) P base 16 "_law_is_content" 3 f__law_is_content := r__law_is_content T TB L 14
theorem sc__law_names_in : FnScope ["thing", "depth", "found", "item"] ["thing", "depth"] (defScope s__law_names_in) := ⟨rfl, rfl, rfl, by decide +kernel, rfl, by decide +kernel, by decide +kernel⟩
theorem j__law_names_in (T : Txt txt K mg h) (TB : ∀ p ∈ txt.cs K, TabB base mg p.1 p.2) (L : Ints mg intL) {self : Fn} {k : Nat} (hk : 1 ≤ k) (hself : FnP (gd w K mg) P base k "_law_names_in" 2 self) (f : Addr) (cdv : Value) (A : Around) (outer : List Env) (s : Shared) (H : Hp) (E : XK) (hr : Room k (A.deeper (envOfC "_law_names_in" (defScope s__law_names_in) s.heap.objs.size f cdv))) :
    JSs (gd w K mg) (cxOf (L2.CX P w) P w K mg base ["thing", "depth", "found", "item"] "_law_names_in" (defScope s__law_names_in) f cdv A outer s H E) (b__law_names_in self) (defBody s__law_names_in) :=
    (jss_cons (js_if (jt_pw (jw_or (jt_not (jt_val (je_isiB rfl (isiB_ok rfl T.cls (by decide)) rfl (T.free 5) rfl (T.free 11) boot_tuple (je_var 0)))) (jw_or1 (jt_cmp (os_eq rfl hr.units) (je_var 1) je_int)))) (jss_one (js_ret (je_lstD ja_nil))) jss_nil)
    (jss_cons (js_if (jt_pw (jw_and (jt_cmp (os_eq rfl hr.units) (je_callB (cs_len rfl) rfl (T.free 10) boot_len (ja_cons (je_var 0) ja_nil)) je_int) (jw_and (jt_val (je_isiB rfl (isiB_ok rfl T.cls (by decide)) rfl (T.free 5) rfl (T.free 9) boot_str (je_sub rfl rfl (hu70 hr) (je_var 0) je_int))) (jw_and (jt_cmp (os_eq rfl hr.units) (je_sub rfl rfl (hu70 hr) (je_var 0) je_int) je_str) (jw_and1 (jt_val (je_call (FnP.at (o__law_is_number T TB L) ⟨rfl, rfl, rfl, rfl, rfl⟩ rfl) (hr.mono (by first | decide | omega)) rfl (ja_cons (je_sub rfl rfl (hu70 hr) (je_var 0) je_int) (ja_cons je_int (ja_cons (je_op os_pow je_int je_int) ja_nil)))))))))) (jss_one (js_ret (je_lstD (ja_cons (je_sub rfl rfl (hu70 hr) (je_var 0) je_int) ja_nil)))) jss_nil)
    (jss_cons (js_set (i := 2) sc__law_names_in.nd rfl (by first | exact Or.inl rfl | exact Or.inr rfl) (je_lstD ja_nil))
    (jss_cons (js_for (passes_of rfl) rfl (ji_seq rfl (je_var 0)) (jg_name sc__law_names_in.nd rfl (by first | exact Or.inl rfl | exact Or.inr rfl)) (jss_one (js_set (i := 2) sc__law_names_in.nd rfl (by first | exact Or.inl rfl | exact Or.inr rfl) (je_op (os_add rfl) (je_var 2) (je_call (FnP.at hself ⟨rfl, rfl, rfl, rfl, rfl⟩ rfl) (hr.mono (by omega)) rfl (ja_cons (je_var 3) (ja_cons (je_op os_sub (je_var 1) je_int) ja_nil)))))))
    (jss_one (js_ret (je_var 2)))))))
theorem r__law_names_in (T : Txt txt K mg h) (TB : ∀ p ∈ txt.cs K, TabB base mg p.1 p.2) (L : Ints mg intL) : ∀ j : Nat, FnP (gd w K mg) P base (2 + j) "_law_names_in" 2 (fr__law_names_in j)
  | 0 => by
    obtain ⟨fd, F⟩ := T.fun_ 16 (at_ := ("_law_names_in", none)) (st := s__law_names_in)
    exact ⟨_, fd, ["thing", "depth"], (T.glo 31), F.kp, F.binds (ps := ["thing", "depth"]) fun _ _ _ _ _ _ us hl => match us, hl with | [_, _], _ => rfl, (fn_bad (k := 1) F sc__law_names_in rfl)⟩
  | j + 1 => by
    obtain ⟨fd, F⟩ := T.fun_ 16 (at_ := ("_law_names_in", none)) (st := s__law_names_in)
    exact ⟨_, fd, ["thing", "depth"], (T.glo 31), F.kp, F.binds (ps := ["thing", "depth"]) fun _ _ _ _ _ _ us hl => match us, hl with | [_, _], _ => rfl, fn_ok (G := gd w K mg) (k := 2 + j) F sc__law_names_in rfl rfl (by decide) fun cdv A outer s H E hr => j__law_names_in T TB L (by omega) (r__law_names_in T TB L j) _ cdv A outer s H E hr⟩
theorem o__law_names_in (T : Txt txt K mg h) (TB : ∀ p ∈ txt.cs K, TabB base mg p.1 p.2) (L : Ints mg intL) : FnP (gd w K mg) P base 16 "_law_names_in" 2 f__law_names_in := r__law_names_in T TB L 14
theorem sc__law_named : FnScope ["tape", "trust", "line", "lap", "content", "bad", "number"] ["tape", "trust"] (defScope s__law_named) := ⟨rfl, rfl, rfl, by decide +kernel, rfl, by decide +kernel, by decide +kernel⟩
abbrev le__law_named_0 : LamI := lamI (kE (kE (kE (kE (kS (sS (dS s__law_named 1) 6) 0) 1) 0) 1) 1)
def lits__law_named : List LamI := [le__law_named_0]
theorem l0__law_named (T : Txt txt K mg h) (TB : ∀ p ∈ txt.cs K, TabB base mg p.1 p.2) (L : Ints mg intL) (f : Addr) (A : Around) (outer : List Env) (s : Shared) (H : Hp) (E : XK) : LamOk ((gd w K mg).with (Clo.of ((envOfC "_law_named" (defScope s__law_named) s.heap.objs.size f (.ref (codeA K ("_law_named", none)))).qual ++ "<lambda>") (envOfC "_law_named" (defScope s__law_named) s.heap.objs.size f (.ref (codeA K ("_law_named", none)))).cells lits__law_named)) (cxOf (L2.CX P w) P w K mg base ["tape", "trust", "line", "lap", "content", "bad", "number"] "_law_named" (defScope s__law_named) f (.ref (codeA K ("_law_named", none))) A outer s H E) 4 le__law_named_0 (eMeth "Trust" "name" 2 f_Trust_name (eVar 1) (aCons (eVar 5) aNil)) := ⟨lamS_by (by rfl), fun _ _ _ _ _ => rfl, fun A' outer' s' H' E' f' c' hr => (je_meth rfl (T.cls.gm "Trust" (by decide +kernel)) (T.cls.ins "Trust" (by decide +kernel)).cl (MtP.at (o_Trust_name T TB L) ⟨rfl, rfl, rfl, rfl, rfl⟩ rfl) (hr.mono (by first | decide | omega)) (je_var 1) (ja_cons (je_var 5) ja_nil))⟩
theorem j__law_named (T : Txt txt K mg h) (TB : ∀ p ∈ txt.cs K, TabB base mg p.1 p.2) (L : Ints mg intL) (f : Addr) (A : Around) (outer : List Env) (s : Shared) (H : Hp) (E : XK) (hr : Room 18 (A.deeper (envOfC "_law_named" (defScope s__law_named) s.heap.objs.size f (.ref (codeA K ("_law_named", none)))))) :
    JSs ((gd w K mg).with (Clo.of ((envOfC "_law_named" (defScope s__law_named) s.heap.objs.size f (.ref (codeA K ("_law_named", none)))).qual ++ "<lambda>") (envOfC "_law_named" (defScope s__law_named) s.heap.objs.size f (.ref (codeA K ("_law_named", none)))).cells lits__law_named)) (cxOf (L2.CX P w) P w K mg base ["tape", "trust", "line", "lap", "content", "bad", "number"] "_law_named" (defScope s__law_named) f (.ref (codeA K ("_law_named", none))) A outer s H E) b__law_named (defBody s__law_named) :=
    (jss_cons (js_set (i := 2) sc__law_named.nd rfl (by first | exact Or.inl rfl | exact Or.inr rfl) (je_lstH ja_nil))
    (jss_cons (js_for (passes_of rfl) rfl (ji_range1 rfl (T.free 27) je_int) (jg_name sc__law_named.nd rfl (by first | exact Or.inl rfl | exact Or.inr rfl)) (jss_cons (js_set (i := 4) sc__law_named.nd rfl (by first | exact Or.inl rfl | exact Or.inr rfl) (je_if (jt_pw (jw_and (jt_cmp (os_ne rfl hr.units) (je_var 2) (je_lstD ja_nil)) (jw_and1 (jt_cmp (os_eq rfl hr.units) (je_call (FnP.at (o__law_draw T TB L) ⟨rfl, rfl, rfl, rfl, rfl⟩ rfl) (hr.mono (by first | decide | omega)) rfl (ja_cons (je_var 0) (ja_cons je_int ja_nil))) je_int)))) (je_call (FnP.at (o__law_pick T TB L) ⟨rfl, rfl, rfl, rfl, rfl⟩ rfl) (hr.mono (by first | decide | omega)) rfl (ja_cons (je_var 0) (ja_cons (je_var 2) ja_nil))) (je_call (FnP.at (o__law_content T TB L) ⟨rfl, rfl, rfl, rfl, rfl⟩ rfl) (hr.mono (by first | decide | omega)) rfl (ja_cons (je_var 0) (ja_cons (je_callB (cs_len rfl) rfl (T.free 10) boot_len (ja_cons (je_var 2) ja_nil)) (ja_cons je_int ja_nil))))))
    (jss_cons (js_set (i := 4) sc__law_named.nd rfl (by first | exact Or.inl rfl | exact Or.inr rfl) (je_if (jt_val (je_call (FnP.at (o__law_is_content T TB L) ⟨rfl, rfl, rfl, rfl, rfl⟩ rfl) (hr.mono (by first | decide | omega)) rfl (ja_cons (je_var 4) (ja_cons (je_callB (cs_len rfl) rfl (T.free 10) boot_len (ja_cons (je_var 2) ja_nil)) (ja_cons je_int ja_nil))))) (je_var 4) je_str))
    (jss_cons (js_if (jt_cmp (os_notIn rfl rfl (hu70 hr)) (je_var 4) (je_var 2) (by first | exact nomark _ | rfl | with_unfolding_all rfl)) (jss_one (js_expr (je_mt PySem.F.slot_list_append PySem.F.type_list_append ms_append (je_var 2) (ja_cons (je_var 4) ja_nil)))) jss_nil)
    (jss_cons (js_if (jt_pw (jw_or (jt_cmp (os_ne rfl hr.units) (je_meth rfl (T.cls.gm "Trust" (by decide +kernel)) (T.cls.ins "Trust" (by decide +kernel)).cl (MtP.at (o_Trust_name T TB L) ⟨rfl, rfl, rfl, rfl, rfl⟩ rfl) (hr.mono (by first | decide | omega)) (je_var 1) (ja_cons (je_var 4) ja_nil)) (je_tup (ja_cons je_str (ja_cons (je_mt PySem.F.slot_list_index PySem.F.type_list_index (ms_index rfl (hu70 hr)) (je_var 2) (ja_cons (je_var 4) ja_nil)) ja_nil)))) (jw_or1 (jt_cmp (os_ne rfl hr.units) (je_meth0 rfl (T.cls.gm "Trust" (by decide +kernel)) (T.cls.ins "Trust" (by decide +kernel)).cl (MtP.at (o_Trust_size T TB L) ⟨rfl, rfl, rfl, rfl, rfl⟩ rfl) (hr.mono (by first | decide | omega)) (je_var 1)) (je_callB (cs_len rfl) rfl (T.free 10) boot_len (ja_cons (je_var 2) ja_nil)))))) (jss_one (js_ret je_none)) jss_nil)
    (jss_cons (js_if (jt_cmp (os_ne rfl hr.units) (je_comp (own := [("number", 6)]) rfl sc__law_named.nd (ji_seq rfl (je_call (FnP.at (o__law_names_in T TB L) ⟨rfl, rfl, rfl, rfl, rfl⟩ rfl) (hr.mono (by first | decide | omega)) rfl (ja_cons (je_var 4) (ja_cons je_int ja_nil)))) (blkOk_by (own := [("number", 6)]) (by rfl)) (by decide) (jgb_name sc__law_named.nd rfl (fun _ _ _ _ _ => (by first | exact Or.inl rfl | exact Or.inr rfl)) (fun _ _ _ _ _ => by first | exact Or.inr rfl | exact Or.inl rfl)) (fun _ _ _ _ _ => (jts_one (jt_cmp os_ge (je_var 6) (je_mt PySem.F.slot_list_index PySem.F.type_list_index (ms_index rfl (hu70 hr)) (je_var 2) (ja_cons (je_var 4) ja_nil))))) (fun _ _ _ _ _ => (je_var 6))) (je_lstD ja_nil)) (jss_one (js_ret je_none)) jss_nil)
    (jss_cons (js_set (i := 5) sc__law_named.nd rfl (by first | exact Or.inl rfl | exact Or.inr rfl) (je_call (FnP.at (o__law_pick T TB L) ⟨rfl, rfl, rfl, rfl, rfl⟩ rfl) (hr.mono (by first | decide | omega)) rfl (ja_cons (je_var 0) (ja_cons (je_lstD (ja_cons je_bool (ja_cons (je_lstD (ja_cons je_int ja_nil)) (ja_cons je_dctD (ja_cons (je_tup (ja_cons je_str (ja_cons (je_callB (cs_len rfl) rfl (T.free 10) boot_len (ja_cons (je_var 2) ja_nil)) ja_nil))) (ja_cons (je_tup (ja_cons je_int (ja_cons (je_tup (ja_cons je_str (ja_cons (je_op os_pow je_int je_int) ja_nil))) ja_nil))) (ja_cons (je_tup (ja_cons (je_tup (ja_cons je_bool ja_nil)) ja_nil)) (ja_cons (je_tup (ja_cons je_str (ja_cons (je_lstD (ja_cons je_int ja_nil)) ja_nil))) (ja_cons (je_tup (ja_cons je_none (ja_cons (je_tup (ja_cons je_str (ja_cons (je_tup (ja_cons je_str (ja_cons (je_op (os_add rfl) (je_callB (cs_len rfl) rfl (T.free 10) boot_len (ja_cons (je_var 2) ja_nil)) je_int) ja_nil))) ja_nil))) ja_nil))) (ja_cons (je_tup (ja_cons je_bool (ja_cons je_int ja_nil))) ja_nil)))))))))) ja_nil))))
    (jss_one (js_if (jt_pw (jw_or (jt_val (je_call (FnP.at (o__law_is_content T TB L) ⟨rfl, rfl, rfl, rfl, rfl⟩ rfl) (hr.mono (by first | decide | omega)) rfl (ja_cons (je_var 5) (ja_cons (je_callB (cs_len rfl) rfl (T.free 10) boot_len (ja_cons (je_var 2) ja_nil)) (ja_cons je_int ja_nil))))) (jw_or (jt_not (jt_val (je_isiC rfl (isiC_ok rfl T.cls (by decide +kernel)) rfl (T.free 5) rfl (T.cls.gm "BadContent" (by decide +kernel)) (je_caught (ls := lits__law_named) (k := 4) (cD T rfl rfl) (hr.mono (by decide)) (LamsOk.of (.cons (l0__law_named T TB L f A outer s H E) .nil)) (fun _ _ _ _ h => h) rfl (je_lam (ls := lits__law_named) (k := 0) (l := le__law_named_0) rfl (fun _ _ _ _ h => h) (TB _ (T.csM (p := (("_law_named", none), "_law_named" ++ ".<locals>." ++ "<lambda>")) (List.mem_of_getElem? (i := 0) rfl))) rfl (T.tabM (p := (("_law_named", none), "_law_named" ++ ".<locals>." ++ "<lambda>")) (List.mem_of_getElem? (i := 0) rfl)) (T.tabU (p := (("_law_named", none), "_law_named" ++ ".<locals>." ++ "<lambda>")) (List.mem_of_getElem? (i := 0) rfl)) rfl (lamS_by (by rfl))))))) (jw_or1 (jt_cmp (os_ne rfl hr.units) (je_meth0 rfl (T.cls.gm "Trust" (by decide +kernel)) (T.cls.ins "Trust" (by decide +kernel)).cl (MtP.at (o_Trust_size T TB L) ⟨rfl, rfl, rfl, rfl, rfl⟩ rfl) (hr.mono (by first | decide | omega)) (je_var 1)) (je_callB (cs_len rfl) rfl (T.free 10) boot_len (ja_cons (je_var 2) ja_nil))))))) (jss_one (js_ret je_none)) jss_nil)))))))))
    (jss_one (js_ret (je_var 2)))))
theorem o__law_named (T : Txt txt K mg h) (TB : ∀ p ∈ txt.cs K, TabB base mg p.1 p.2) (L : Ints mg intL) : FnP (gd w K mg) P base 19 "_law_named" 2 f__law_named := by
  obtain ⟨fd, F⟩ := T.fun_ 17 (at_ := ("_law_named", none)) (st := s__law_named)
  exact ⟨_, fd, ["tape", "trust"], (T.glo 32), F.kp, F.binds (ps := ["tape", "trust"]) fun _ _ _ _ _ _ us hl => match us, hl with | [_, _], _ => rfl, fn_okL (P := P) (G := gd w K mg) (k := 18) (ls := lits__law_named) F (T.code F (q := "_law_named" ++ ".<locals>." ++ "<lambda>") (List.mem_of_getElem? (i := 0) rfl)) sc__law_named rfl rfl fun A outer s H E hr => j__law_named T TB L _ A outer s H E hr⟩
theorem sc_is_who : FnScope ["value"] ["value"] (defScope s_is_who) := ⟨rfl, rfl, rfl, by decide +kernel, rfl, by decide +kernel, by decide +kernel⟩
theorem j_is_who (T : Txt txt K mg h) (TB : ∀ p ∈ txt.cs K, TabB base mg p.1 p.2) (L : Ints mg intL) (f : Addr) (cdv : Value) (A : Around) (outer : List Env) (s : Shared) (H : Hp) (E : XK) (hr : Room 1 (A.deeper (envOfC "is_who" (defScope s_is_who) s.heap.objs.size f cdv))) :
    JSs (gd w K mg) (cxOf (L2.CX P w) P w K mg base ["value"] "is_who" (defScope s_is_who) f cdv A outer s H E) b_is_who (defBody s_is_who) :=
    (jss_cons (js_if (jt_pw (jw_or (jt_not (jt_val (je_isiB rfl (isiB_ok rfl T.cls (by decide)) rfl (T.free 5) rfl (T.free 11) boot_tuple (je_var 0)))) (jw_or (jt_cmp (os_ne rfl hr.units) (je_callB (cs_len rfl) rfl (T.free 10) boot_len (ja_cons (je_var 0) ja_nil)) je_int) (jw_or1 (jt_not (jt_val (je_isiB rfl (isiB_ok rfl T.cls (by decide)) rfl (T.free 5) rfl (T.free 9) boot_str (je_sub rfl rfl (hu70 hr) (je_var 0) je_int)))))))) (jss_one (js_ret je_bool)) jss_nil)
    (jss_one (js_ret (je_and (je_cmp (os_in rfl rfl (hu70 hr)) (je_sub rfl rfl (hu70 hr) (je_var 0) je_int) (je_tup (ja_cons je_str (ja_cons je_str ja_nil))) (by first | exact nomark _ | rfl | with_unfolding_all rfl)) (je_one (je_call (FnP.at (o_is_number T TB L) ⟨rfl, rfl, rfl, rfl, rfl⟩ rfl) (hr.mono (by first | decide | omega)) rfl (ja_cons (je_sub rfl rfl (hu70 hr) (je_var 0) je_int) (ja_cons je_int ja_nil))))))))
theorem o_is_who (T : Txt txt K mg h) (TB : ∀ p ∈ txt.cs K, TabB base mg p.1 p.2) (L : Ints mg intL) : FnP (gd w K mg) P base 2 "is_who" 1 f_is_who := by
  obtain ⟨fd, F⟩ := T.fun_ 18 (at_ := ("is_who", none)) (st := s_is_who)
  exact ⟨_, fd, ["value"], (T.glo 33), F.kp, F.binds (ps := ["value"]) fun _ _ _ _ _ _ us hl => match us, hl with | [_], _ => rfl, fn_ok (P := P) (G := gd w K mg) (k := 1) F sc_is_who rfl rfl (by decide) fun cdv A outer s H E hr => j_is_who T TB L _ cdv A outer s H E hr⟩
theorem sc_Trust_seal : FnScope ["self", "who", "name"] ["self", "who", "name"] (defScope s_Trust_seal) := ⟨rfl, rfl, rfl, by decide +kernel, rfl, by decide +kernel, by decide +kernel⟩
theorem j_Trust_seal (T : Txt txt K mg h) (TB : ∀ p ∈ txt.cs K, TabB base mg p.1 p.2) (L : Ints mg intL) (f : Addr) (cdv : Value) (A : Around) (outer : List Env) (s : Shared) (H : Hp) (E : XK) (hr : Room 3 (A.deeper (envOfC "Trust.seal" (defScope s_Trust_seal) s.heap.objs.size f cdv))) :
    JSs (gd w K mg) (cxOf (L2.CX P w) P w K mg base ["self", "who", "name"] "Trust.seal" (defScope s_Trust_seal) f cdv A outer s H E) b_Trust_seal (defBody s_Trust_seal) :=
    (jss_cons (js_if (jt_not (jt_val (je_call (FnP.at (o_is_who T TB L) ⟨rfl, rfl, rfl, rfl, rfl⟩ rfl) (hr.mono (by first | decide | omega)) rfl (ja_cons (je_var 1) ja_nil)))) (jss_one (js_raise' (c := "BadWho") rfl (He.exc_ok (T.c.fact 34)) (T.cls.gm "BadWho" (by decide +kernel)) rfl rfl)) jss_nil)
    (jss_cons (js_if (jt_not (jt_val (je_meth rfl (T.cls.gm "Trust" (by decide +kernel)) (T.cls.ins "Trust" (by decide +kernel)).cl (MtP.at (o_Trust_is_name T TB L) ⟨rfl, rfl, rfl, rfl, rfl⟩ rfl) (hr.mono (by first | decide | omega)) (je_var 0) (ja_cons (je_var 2) ja_nil)))) (jss_one (js_raise' (c := "BadName") rfl (He.exc_ok (T.c.fact 14)) (T.cls.gm "BadName" (by decide +kernel)) rfl rfl)) jss_nil)
    (jss_one (js_put rfl rfl (hu70 hr) (je_fld rfl (T.cls.gm "Trust" (by decide +kernel)) (T.cls.ins "Trust" (by decide +kernel)).cl (He.noat_ok (T.c.fact 0)) (je_var 0)) (je_tup (ja_cons (je_var 1) (ja_cons (je_var 2) ja_nil))) je_bool))))
theorem o_Trust_seal (T : Txt txt K mg h) (TB : ∀ p ∈ txt.cs K, TabB base mg p.1 p.2) (L : Ints mg intL) : MtP (gd w K mg) P base 4 (gaS K "Trust") "seal" 3 f_Trust_seal := by
  obtain ⟨fd, F⟩ := T.fun_ 19 (at_ := ("Trust", some "seal")) (st := s_Trust_seal)
  exact ⟨_, fd, ["self", "who", "name"], He.meth_ok (T.c.fact 35), F.binds (ps := ["self", "who", "name"]) fun _ _ _ _ _ _ us hl => match us, hl with | [_, _, _], _ => rfl, fn_ok (P := P) (G := gd w K mg) (k := 3) F sc_Trust_seal rfl rfl (by decide) fun cdv A outer s H E hr => j_Trust_seal T TB L _ cdv A outer s H E hr⟩
theorem sc_Trust_sealed : FnScope ["self", "who", "name"] ["self", "who", "name"] (defScope s_Trust_sealed) := ⟨rfl, rfl, rfl, by decide +kernel, rfl, by decide +kernel, by decide +kernel⟩
theorem j_Trust_sealed (T : Txt txt K mg h) (TB : ∀ p ∈ txt.cs K, TabB base mg p.1 p.2) (L : Ints mg intL) (f : Addr) (cdv : Value) (A : Around) (outer : List Env) (s : Shared) (H : Hp) (E : XK) (hr : Room 3 (A.deeper (envOfC "Trust.sealed" (defScope s_Trust_sealed) s.heap.objs.size f cdv))) :
    JSs (gd w K mg) (cxOf (L2.CX P w) P w K mg base ["self", "who", "name"] "Trust.sealed" (defScope s_Trust_sealed) f cdv A outer s H E) b_Trust_sealed (defBody s_Trust_sealed) :=
    (jss_cons (js_if (jt_not (jt_val (je_call (FnP.at (o_is_who T TB L) ⟨rfl, rfl, rfl, rfl, rfl⟩ rfl) (hr.mono (by first | decide | omega)) rfl (ja_cons (je_var 1) ja_nil)))) (jss_one (js_raise' (c := "BadWho") rfl (He.exc_ok (T.c.fact 34)) (T.cls.gm "BadWho" (by decide +kernel)) rfl rfl)) jss_nil)
    (jss_cons (js_if (jt_not (jt_val (je_meth rfl (T.cls.gm "Trust" (by decide +kernel)) (T.cls.ins "Trust" (by decide +kernel)).cl (MtP.at (o_Trust_is_name T TB L) ⟨rfl, rfl, rfl, rfl, rfl⟩ rfl) (hr.mono (by first | decide | omega)) (je_var 0) (ja_cons (je_var 2) ja_nil)))) (jss_one (js_raise' (c := "BadName") rfl (He.exc_ok (T.c.fact 14)) (T.cls.gm "BadName" (by decide +kernel)) rfl rfl)) jss_nil)
    (jss_one (js_ret (je_cmp (os_in rfl rfl (hu70 hr)) (je_tup (ja_cons (je_var 1) (ja_cons (je_var 2) ja_nil))) (je_fld rfl (T.cls.gm "Trust" (by decide +kernel)) (T.cls.ins "Trust" (by decide +kernel)).cl (He.noat_ok (T.c.fact 0)) (je_var 0)) (by first | exact nomark _ | rfl | with_unfolding_all rfl))))))
theorem o_Trust_sealed (T : Txt txt K mg h) (TB : ∀ p ∈ txt.cs K, TabB base mg p.1 p.2) (L : Ints mg intL) : MtP (gd w K mg) P base 4 (gaS K "Trust") "sealed" 3 f_Trust_sealed := by
  obtain ⟨fd, F⟩ := T.fun_ 20 (at_ := ("Trust", some "sealed")) (st := s_Trust_sealed)
  exact ⟨_, fd, ["self", "who", "name"], He.meth_ok (T.c.fact 36), F.binds (ps := ["self", "who", "name"]) fun _ _ _ _ _ _ us hl => match us, hl with | [_, _, _], _ => rfl, fn_ok (P := P) (G := gd w K mg) (k := 3) F sc_Trust_sealed rfl rfl (by decide) fun cdv A outer s H E hr => j_Trust_sealed T TB L _ cdv A outer s H E hr⟩
theorem sc__law_is_bool : FnScope ["value", "due"] ["value", "due"] (defScope s__law_is_bool) := ⟨rfl, rfl, rfl, by decide +kernel, rfl, by decide +kernel, by decide +kernel⟩
theorem j__law_is_bool (T : Txt txt K mg h) (TB : ∀ p ∈ txt.cs K, TabB base mg p.1 p.2) (L : Ints mg intL) (f : Addr) (cdv : Value) (A : Around) (outer : List Env) (s : Shared) (H : Hp) (E : XK) (hr : Room 0 (A.deeper (envOfC "_law_is_bool" (defScope s__law_is_bool) s.heap.objs.size f cdv))) :
    JSs (gd w K mg) (cxOf (L2.CX P w) P w K mg base ["value", "due"] "_law_is_bool" (defScope s__law_is_bool) f cdv A outer s H E) b__law_is_bool (defBody s__law_is_bool) :=
    (jss_one (js_ret (je_if (jt_val (je_var 1)) (je_cmp os_is (je_var 0) je_bool) (je_cmp os_is (je_var 0) je_bool))))
theorem o__law_is_bool (T : Txt txt K mg h) (TB : ∀ p ∈ txt.cs K, TabB base mg p.1 p.2) (L : Ints mg intL) : FnP (gd w K mg) P base 1 "_law_is_bool" 2 f__law_is_bool := by
  obtain ⟨fd, F⟩ := T.fun_ 21 (at_ := ("_law_is_bool", none)) (st := s__law_is_bool)
  exact ⟨_, fd, ["value", "due"], (T.glo 37), F.kp, F.binds (ps := ["value", "due"]) fun _ _ _ _ _ _ us hl => match us, hl with | [_, _], _ => rfl, fn_ok (P := P) (G := gd w K mg) (k := 0) F sc__law_is_bool rfl rfl (by decide) fun cdv A outer s H E hr => j__law_is_bool T TB L _ cdv A outer s H E hr⟩
theorem sc__law_seals_right : FnScope ["tape", "trust", "line", "sealed", "lap", "who", "name", "works", "work"] ["tape", "trust", "line"] (defScope s__law_seals_right) := ⟨rfl, rfl, rfl, by decide +kernel, rfl, by decide +kernel, by decide +kernel⟩
abbrev le__law_seals_right_0 : LamI := lamI (kE (kS (sS (dS s__law_seals_right 2) 0) 0) 0)
abbrev le__law_seals_right_1 : LamI := lamI (kE (kS (sS (dS s__law_seals_right 2) 0) 0) 1)
abbrev le__law_seals_right_2 : LamI := lamI (kE (kS (sS (dS s__law_seals_right 3) 0) 0) 0)
abbrev le__law_seals_right_3 : LamI := lamI (kE (kS (sS (dS s__law_seals_right 3) 0) 0) 1)
abbrev le__law_seals_right_4 : LamI := lamI (kE (kS (sS (dS s__law_seals_right 3) 0) 0) 2)
def lits__law_seals_right : List LamI := [le__law_seals_right_0, le__law_seals_right_1, le__law_seals_right_2, le__law_seals_right_3, le__law_seals_right_4]
theorem l0__law_seals_right (T : Txt txt K mg h) (TB : ∀ p ∈ txt.cs K, TabB base mg p.1 p.2) (L : Ints mg intL) (f : Addr) (A : Around) (outer : List Env) (s : Shared) (H : Hp) (E : XK) : LamOk ((gd w K mg).with (Clo.of ((envOfC "_law_seals_right" (defScope s__law_seals_right) s.heap.objs.size f (.ref (codeA K ("_law_seals_right", none)))).qual ++ "<lambda>") (envOfC "_law_seals_right" (defScope s__law_seals_right) s.heap.objs.size f (.ref (codeA K ("_law_seals_right", none)))).cells lits__law_seals_right)) (cxOf (L2.CX P w) P w K mg base ["tape", "trust", "line", "sealed", "lap", "who", "name", "works", "work"] "_law_seals_right" (defScope s__law_seals_right) f (.ref (codeA K ("_law_seals_right", none))) A outer s H E) 4 le__law_seals_right_0 (eMeth "Trust" "seal" 3 f_Trust_seal (eVar 1) (aCons (eVar 5) (aCons (eTup (aCons (eC (.str "name")) (aCons (eC (.int 0)) aNil))) aNil))) := ⟨lamS_by (by rfl), fun _ _ _ _ _ => rfl, fun A' outer' s' H' E' f' c' hr => (je_meth rfl (T.cls.gm "Trust" (by decide +kernel)) (T.cls.ins "Trust" (by decide +kernel)).cl (MtP.at (o_Trust_seal T TB L) ⟨rfl, rfl, rfl, rfl, rfl⟩ rfl) (hr.mono (by first | decide | omega)) (je_var 1) (ja_cons (je_var 5) (ja_cons (je_tup (ja_cons je_str (ja_cons je_int ja_nil))) ja_nil)))⟩
theorem l1__law_seals_right (T : Txt txt K mg h) (TB : ∀ p ∈ txt.cs K, TabB base mg p.1 p.2) (L : Ints mg intL) (f : Addr) (A : Around) (outer : List Env) (s : Shared) (H : Hp) (E : XK) : LamOk ((gd w K mg).with (Clo.of ((envOfC "_law_seals_right" (defScope s__law_seals_right) s.heap.objs.size f (.ref (codeA K ("_law_seals_right", none)))).qual ++ "<lambda>") (envOfC "_law_seals_right" (defScope s__law_seals_right) s.heap.objs.size f (.ref (codeA K ("_law_seals_right", none)))).cells lits__law_seals_right)) (cxOf (L2.CX P w) P w K mg base ["tape", "trust", "line", "sealed", "lap", "who", "name", "works", "work"] "_law_seals_right" (defScope s__law_seals_right) f (.ref (codeA K ("_law_seals_right", none))) A outer s H E) 4 le__law_seals_right_1 (eMeth "Trust" "sealed" 3 f_Trust_sealed (eVar 1) (aCons (eVar 5) (aCons (eC .none) aNil))) := ⟨lamS_by (by rfl), fun _ _ _ _ _ => rfl, fun A' outer' s' H' E' f' c' hr => (je_meth rfl (T.cls.gm "Trust" (by decide +kernel)) (T.cls.ins "Trust" (by decide +kernel)).cl (MtP.at (o_Trust_sealed T TB L) ⟨rfl, rfl, rfl, rfl, rfl⟩ rfl) (hr.mono (by first | decide | omega)) (je_var 1) (ja_cons (je_var 5) (ja_cons je_none ja_nil)))⟩
theorem l2__law_seals_right (T : Txt txt K mg h) (TB : ∀ p ∈ txt.cs K, TabB base mg p.1 p.2) (L : Ints mg intL) (f : Addr) (A : Around) (outer : List Env) (s : Shared) (H : Hp) (E : XK) : LamOk ((gd w K mg).with (Clo.of ((envOfC "_law_seals_right" (defScope s__law_seals_right) s.heap.objs.size f (.ref (codeA K ("_law_seals_right", none)))).qual ++ "<lambda>") (envOfC "_law_seals_right" (defScope s__law_seals_right) s.heap.objs.size f (.ref (codeA K ("_law_seals_right", none)))).cells lits__law_seals_right)) (cxOf (L2.CX P w) P w K mg base ["tape", "trust", "line", "sealed", "lap", "who", "name", "works", "work"] "_law_seals_right" (defScope s__law_seals_right) f (.ref (codeA K ("_law_seals_right", none))) A outer s H E) 4 le__law_seals_right_2 (eMeth "Trust" "seal" 3 f_Trust_seal (eVar 1) (aCons (eTup (aCons (eC (.str "owner")) (aCons (eC (.int 0)) aNil))) (aCons (eVar 6) aNil))) := ⟨lamS_by (by rfl), fun _ _ _ _ _ => rfl, fun A' outer' s' H' E' f' c' hr => (je_meth rfl (T.cls.gm "Trust" (by decide +kernel)) (T.cls.ins "Trust" (by decide +kernel)).cl (MtP.at (o_Trust_seal T TB L) ⟨rfl, rfl, rfl, rfl, rfl⟩ rfl) (hr.mono (by first | decide | omega)) (je_var 1) (ja_cons (je_tup (ja_cons je_str (ja_cons je_int ja_nil))) (ja_cons (je_var 6) ja_nil)))⟩
theorem l3__law_seals_right (T : Txt txt K mg h) (TB : ∀ p ∈ txt.cs K, TabB base mg p.1 p.2) (L : Ints mg intL) (f : Addr) (A : Around) (outer : List Env) (s : Shared) (H : Hp) (E : XK) : LamOk ((gd w K mg).with (Clo.of ((envOfC "_law_seals_right" (defScope s__law_seals_right) s.heap.objs.size f (.ref (codeA K ("_law_seals_right", none)))).qual ++ "<lambda>") (envOfC "_law_seals_right" (defScope s__law_seals_right) s.heap.objs.size f (.ref (codeA K ("_law_seals_right", none)))).cells lits__law_seals_right)) (cxOf (L2.CX P w) P w K mg base ["tape", "trust", "line", "sealed", "lap", "who", "name", "works", "work"] "_law_seals_right" (defScope s__law_seals_right) f (.ref (codeA K ("_law_seals_right", none))) A outer s H E) 4 le__law_seals_right_3 (eMeth "Trust" "sealed" 3 f_Trust_sealed (eVar 1) (aCons (eTup (aCons (eC (.str "member")) (aCons (eC (.int 1)) aNil))) (aCons (eVar 6) aNil))) := ⟨lamS_by (by rfl), fun _ _ _ _ _ => rfl, fun A' outer' s' H' E' f' c' hr => (je_meth rfl (T.cls.gm "Trust" (by decide +kernel)) (T.cls.ins "Trust" (by decide +kernel)).cl (MtP.at (o_Trust_sealed T TB L) ⟨rfl, rfl, rfl, rfl, rfl⟩ rfl) (hr.mono (by first | decide | omega)) (je_var 1) (ja_cons (je_tup (ja_cons je_str (ja_cons je_int ja_nil))) (ja_cons (je_var 6) ja_nil)))⟩
theorem l4__law_seals_right (T : Txt txt K mg h) (TB : ∀ p ∈ txt.cs K, TabB base mg p.1 p.2) (L : Ints mg intL) (f : Addr) (A : Around) (outer : List Env) (s : Shared) (H : Hp) (E : XK) : LamOk ((gd w K mg).with (Clo.of ((envOfC "_law_seals_right" (defScope s__law_seals_right) s.heap.objs.size f (.ref (codeA K ("_law_seals_right", none)))).qual ++ "<lambda>") (envOfC "_law_seals_right" (defScope s__law_seals_right) s.heap.objs.size f (.ref (codeA K ("_law_seals_right", none)))).cells lits__law_seals_right)) (cxOf (L2.CX P w) P w K mg base ["tape", "trust", "line", "sealed", "lap", "who", "name", "works", "work"] "_law_seals_right" (defScope s__law_seals_right) f (.ref (codeA K ("_law_seals_right", none))) A outer s H E) 4 le__law_seals_right_4 (eMeth "Trust" "content" 2 f_Trust_content (eVar 1) (aCons (eVar 6) aNil)) := ⟨lamS_by (by rfl), fun _ _ _ _ _ => rfl, fun A' outer' s' H' E' f' c' hr => (je_meth rfl (T.cls.gm "Trust" (by decide +kernel)) (T.cls.ins "Trust" (by decide +kernel)).cl (MtP.at (o_Trust_content T TB L) ⟨rfl, rfl, rfl, rfl, rfl⟩ rfl) (hr.mono (by first | decide | omega)) (je_var 1) (ja_cons (je_var 6) ja_nil))⟩
theorem j__law_seals_right (T : Txt txt K mg h) (TB : ∀ p ∈ txt.cs K, TabB base mg p.1 p.2) (L : Ints mg intL) (f : Addr) (A : Around) (outer : List Env) (s : Shared) (H : Hp) (E : XK) (hr : Room 6 (A.deeper (envOfC "_law_seals_right" (defScope s__law_seals_right) s.heap.objs.size f (.ref (codeA K ("_law_seals_right", none)))))) :
    JSs ((gd w K mg).with (Clo.of ((envOfC "_law_seals_right" (defScope s__law_seals_right) s.heap.objs.size f (.ref (codeA K ("_law_seals_right", none)))).qual ++ "<lambda>") (envOfC "_law_seals_right" (defScope s__law_seals_right) s.heap.objs.size f (.ref (codeA K ("_law_seals_right", none)))).cells lits__law_seals_right)) (cxOf (L2.CX P w) P w K mg base ["tape", "trust", "line", "sealed", "lap", "who", "name", "works", "work"] "_law_seals_right" (defScope s__law_seals_right) f (.ref (codeA K ("_law_seals_right", none))) A outer s H E) b__law_seals_right (defBody s__law_seals_right) :=
    (jss_cons (js_set (i := 3) sc__law_seals_right.nd rfl (by first | exact Or.inl rfl | exact Or.inr rfl) (je_lstH ja_nil))
    (jss_cons (js_for (passes_of rfl) rfl (ji_range1 rfl (T.free 27) je_int) (jg_name sc__law_seals_right.nd rfl (by first | exact Or.inl rfl | exact Or.inr rfl)) (jss_cons (js_set (i := 5) sc__law_seals_right.nd rfl (by first | exact Or.inl rfl | exact Or.inr rfl) (je_tup (ja_cons (je_call (FnP.at (o__law_pick T TB L) ⟨rfl, rfl, rfl, rfl, rfl⟩ rfl) (hr.mono (by first | decide | omega)) rfl (ja_cons (je_var 0) (ja_cons (je_lstD (ja_cons je_str (ja_cons je_str ja_nil))) ja_nil))) (ja_cons (je_call (FnP.at (o__law_draw T TB L) ⟨rfl, rfl, rfl, rfl, rfl⟩ rfl) (hr.mono (by first | decide | omega)) rfl (ja_cons (je_var 0) (ja_cons je_int ja_nil))) ja_nil))))
    (jss_cons (js_set (i := 6) sc__law_seals_right.nd rfl (by first | exact Or.inl rfl | exact Or.inr rfl) (je_tup (ja_cons je_str (ja_cons (je_call (FnP.at (o__law_draw T TB L) ⟨rfl, rfl, rfl, rfl, rfl⟩ rfl) (hr.mono (by first | decide | omega)) rfl (ja_cons (je_var 0) (ja_cons (je_callB (cs_len rfl) rfl (T.free 10) boot_len (ja_cons (je_var 2) ja_nil)) ja_nil))) ja_nil))))
    (jss_cons (js_if (jt_cmp (os_eq rfl hr.units) (je_call (FnP.at (o__law_draw T TB L) ⟨rfl, rfl, rfl, rfl, rfl⟩ rfl) (hr.mono (by first | decide | omega)) rfl (ja_cons (je_var 0) (ja_cons je_int ja_nil))) je_int) (jss_cons (js_if (jt_cmp os_isNot (je_meth rfl (T.cls.gm "Trust" (by decide +kernel)) (T.cls.ins "Trust" (by decide +kernel)).cl (MtP.at (o_Trust_seal T TB L) ⟨rfl, rfl, rfl, rfl, rfl⟩ rfl) (hr.mono (by first | decide | omega)) (je_var 1) (ja_cons (je_var 5) (ja_cons (je_var 6) ja_nil))) je_none) (jss_one (js_ret je_bool)) jss_nil)
    (jss_one (js_expr (je_mt PySem.F.slot_list_append PySem.F.type_list_append ms_append (je_var 3) (ja_cons (je_tup (ja_cons (je_var 5) (ja_cons (je_var 6) ja_nil))) ja_nil))))) jss_nil)
    (jss_one (js_if (jt_not (jt_val (je_call (FnP.at (o__law_is_bool T TB L) ⟨rfl, rfl, rfl, rfl, rfl⟩ rfl) (hr.mono (by first | decide | omega)) rfl (ja_cons (je_meth rfl (T.cls.gm "Trust" (by decide +kernel)) (T.cls.ins "Trust" (by decide +kernel)).cl (MtP.at (o_Trust_sealed T TB L) ⟨rfl, rfl, rfl, rfl, rfl⟩ rfl) (hr.mono (by first | decide | omega)) (je_var 1) (ja_cons (je_var 5) (ja_cons (je_var 6) ja_nil))) (ja_cons (je_cmp (os_in rfl rfl (hu70 hr)) (je_tup (ja_cons (je_var 5) (ja_cons (je_var 6) ja_nil))) (je_var 3) (by first | exact nomark _ | rfl | with_unfolding_all rfl)) ja_nil))))) (jss_one (js_ret je_bool)) jss_nil))))))
    (jss_cons (js_for (passes_of rfl) rfl (ji_seq rfl (je_lstD (ja_cons je_none (ja_cons (je_tup (ja_cons je_str ja_nil)) (ja_cons (je_tup (ja_cons je_str (ja_cons (je_un us_neg je_int) ja_nil))) (ja_cons (je_tup (ja_cons je_str (ja_cons je_bool ja_nil))) (ja_cons (je_lstD (ja_cons je_str (ja_cons je_int ja_nil))) (ja_cons (je_tup (ja_cons je_str (ja_cons je_int ja_nil))) (ja_cons (je_tup (ja_cons je_str (ja_cons je_int (ja_cons je_int ja_nil)))) (ja_cons (je_tup (ja_cons je_str (ja_cons je_str ja_nil))) (ja_cons (je_tup (ja_cons je_int (ja_cons je_int ja_nil))) ja_nil))))))))))) (jg_name sc__law_seals_right.nd rfl (by first | exact Or.inl rfl | exact Or.inr rfl)) (jss_cons (js_set (i := 7) sc__law_seals_right.nd rfl (by first | exact Or.inl rfl | exact Or.inr rfl) (je_clos (ja_cons (je_lam (ls := lits__law_seals_right) (k := 0) (l := le__law_seals_right_0) rfl (fun _ _ _ _ h => h) (TB _ (T.csM (p := (("_law_seals_right", none), "_law_seals_right" ++ ".<locals>." ++ "<lambda>")) (List.mem_of_getElem? (i := 1) rfl))) rfl (T.tabM (p := (("_law_seals_right", none), "_law_seals_right" ++ ".<locals>." ++ "<lambda>")) (List.mem_of_getElem? (i := 1) rfl)) (T.tabU (p := (("_law_seals_right", none), "_law_seals_right" ++ ".<locals>." ++ "<lambda>")) (List.mem_of_getElem? (i := 1) rfl)) rfl (lamS_by (by rfl))) (ja_cons (je_lam (ls := lits__law_seals_right) (k := 1) (l := le__law_seals_right_1) rfl (fun _ _ _ _ h => h) (TB _ (T.csM (p := (("_law_seals_right", none), "_law_seals_right" ++ ".<locals>." ++ "<lambda>")) (List.mem_of_getElem? (i := 1) rfl))) rfl (T.tabM (p := (("_law_seals_right", none), "_law_seals_right" ++ ".<locals>." ++ "<lambda>")) (List.mem_of_getElem? (i := 1) rfl)) (T.tabU (p := (("_law_seals_right", none), "_law_seals_right" ++ ".<locals>." ++ "<lambda>")) (List.mem_of_getElem? (i := 1) rfl)) rfl (lamS_by (by rfl))) ja_nil))))
    (jss_one (js_if (jt_cmp (os_ne rfl hr.units) (je_compC (own := [("work", 8)]) rfl sc__law_seals_right.nd (ji_seq rfl (je_var 7)) (blkOk_by (own := [("work", 8)]) (by rfl)) (by decide) (fun _ _ _ _ h => h) (jgba_name sc__law_seals_right.nd rfl (fun _ _ _ _ _ => (by first | exact Or.inl rfl | exact Or.inr rfl)) (fun _ _ _ _ _ => by first | exact Or.inr rfl | exact Or.inl rfl)) (fun ρ0 σ0 s0 H0 C0 cl0 fp0 at0 => (jts_one (jt_not (jt_val (je_isiC rfl (isiC_ok rfl T.cls (by decide +kernel)) rfl (T.free 5) rfl (T.cls.gm "BadWho" (by decide +kernel)) (je_caughtB (ls := lits__law_seals_right) (k := 4) at0 (cD T rfl rfl) (hr.mono (by decide)) (LamsOk.of (.cons (l0__law_seals_right T TB L f A outer s H E) (.cons (l1__law_seals_right T TB L f A outer s H E) (.cons (l2__law_seals_right T TB L f A outer s H E) (.cons (l3__law_seals_right T TB L f A outer s H E) (.cons (l4__law_seals_right T TB L f A outer s H E) .nil)))))) rfl (je_var 8))))))) (fun ρ0 σ0 s0 H0 C0 cl0 fp0 at0 => (je_var 8))) (je_lstD ja_nil)) (jss_one (js_ret je_bool)) jss_nil))))
    (jss_cons (js_for (passes_of rfl) rfl (ji_seq rfl (je_lstD (ja_cons je_none (ja_cons je_int (ja_cons (je_tup (ja_cons je_str (ja_cons (je_callB (cs_len rfl) rfl (T.free 10) boot_len (ja_cons (je_var 2) ja_nil)) ja_nil))) (ja_cons (je_tup (ja_cons je_str (ja_cons (je_un us_neg je_int) ja_nil))) (ja_cons (je_tup (ja_cons je_str (ja_cons je_bool ja_nil))) (ja_cons (je_lstD (ja_cons je_str (ja_cons je_int ja_nil))) (ja_cons (je_tup (ja_cons je_str ja_nil)) (ja_cons (je_tup (ja_cons je_str (ja_cons je_int ja_nil))) (ja_cons (je_tup (ja_cons je_str (ja_cons je_int (ja_cons je_int ja_nil)))) ja_nil))))))))))) (jg_name sc__law_seals_right.nd rfl (by first | exact Or.inl rfl | exact Or.inr rfl)) (jss_cons (js_set (i := 7) sc__law_seals_right.nd rfl (by first | exact Or.inl rfl | exact Or.inr rfl) (je_clos (ja_cons (je_lam (ls := lits__law_seals_right) (k := 2) (l := le__law_seals_right_2) rfl (fun _ _ _ _ h => h) (TB _ (T.csM (p := (("_law_seals_right", none), "_law_seals_right" ++ ".<locals>." ++ "<lambda>")) (List.mem_of_getElem? (i := 1) rfl))) rfl (T.tabM (p := (("_law_seals_right", none), "_law_seals_right" ++ ".<locals>." ++ "<lambda>")) (List.mem_of_getElem? (i := 1) rfl)) (T.tabU (p := (("_law_seals_right", none), "_law_seals_right" ++ ".<locals>." ++ "<lambda>")) (List.mem_of_getElem? (i := 1) rfl)) rfl (lamS_by (by rfl))) (ja_cons (je_lam (ls := lits__law_seals_right) (k := 3) (l := le__law_seals_right_3) rfl (fun _ _ _ _ h => h) (TB _ (T.csM (p := (("_law_seals_right", none), "_law_seals_right" ++ ".<locals>." ++ "<lambda>")) (List.mem_of_getElem? (i := 1) rfl))) rfl (T.tabM (p := (("_law_seals_right", none), "_law_seals_right" ++ ".<locals>." ++ "<lambda>")) (List.mem_of_getElem? (i := 1) rfl)) (T.tabU (p := (("_law_seals_right", none), "_law_seals_right" ++ ".<locals>." ++ "<lambda>")) (List.mem_of_getElem? (i := 1) rfl)) rfl (lamS_by (by rfl))) (ja_cons (je_lam (ls := lits__law_seals_right) (k := 4) (l := le__law_seals_right_4) rfl (fun _ _ _ _ h => h) (TB _ (T.csM (p := (("_law_seals_right", none), "_law_seals_right" ++ ".<locals>." ++ "<lambda>")) (List.mem_of_getElem? (i := 1) rfl))) rfl (T.tabM (p := (("_law_seals_right", none), "_law_seals_right" ++ ".<locals>." ++ "<lambda>")) (List.mem_of_getElem? (i := 1) rfl)) (T.tabU (p := (("_law_seals_right", none), "_law_seals_right" ++ ".<locals>." ++ "<lambda>")) (List.mem_of_getElem? (i := 1) rfl)) rfl (lamS_by (by rfl))) ja_nil)))))
    (jss_one (js_if (jt_pw (jw_or (jt_cmp (os_ne rfl hr.units) (je_compC (own := [("work", 8)]) rfl sc__law_seals_right.nd (ji_seq rfl (je_var 7)) (blkOk_by (own := [("work", 8)]) (by rfl)) (by decide) (fun _ _ _ _ h => h) (jgba_name sc__law_seals_right.nd rfl (fun _ _ _ _ _ => (by first | exact Or.inl rfl | exact Or.inr rfl)) (fun _ _ _ _ _ => by first | exact Or.inr rfl | exact Or.inl rfl)) (fun ρ0 σ0 s0 H0 C0 cl0 fp0 at0 => (jts_one (jt_not (jt_val (je_isiC rfl (isiC_ok rfl T.cls (by decide +kernel)) rfl (T.free 5) rfl (T.cls.gm "BadName" (by decide +kernel)) (je_caughtB (ls := lits__law_seals_right) (k := 4) at0 (cD T rfl rfl) (hr.mono (by decide)) (LamsOk.of (.cons (l0__law_seals_right T TB L f A outer s H E) (.cons (l1__law_seals_right T TB L f A outer s H E) (.cons (l2__law_seals_right T TB L f A outer s H E) (.cons (l3__law_seals_right T TB L f A outer s H E) (.cons (l4__law_seals_right T TB L f A outer s H E) .nil)))))) rfl (je_var 8))))))) (fun ρ0 σ0 s0 H0 C0 cl0 fp0 at0 => (je_var 8))) (je_lstD ja_nil)) (jw_or1 (jt_cmp os_isNot (je_meth rfl (T.cls.gm "Trust" (by decide +kernel)) (T.cls.ins "Trust" (by decide +kernel)).cl (MtP.at (o_Trust_is_name T TB L) ⟨rfl, rfl, rfl, rfl, rfl⟩ rfl) (hr.mono (by first | decide | omega)) (je_var 1) (ja_cons (je_var 6) ja_nil)) je_bool)))) (jss_one (js_ret je_bool)) jss_nil))))
    (jss_one (js_ret je_bool))))))
theorem o__law_seals_right (T : Txt txt K mg h) (TB : ∀ p ∈ txt.cs K, TabB base mg p.1 p.2) (L : Ints mg intL) : FnP (gd w K mg) P base 7 "_law_seals_right" 3 f__law_seals_right := by
  obtain ⟨fd, F⟩ := T.fun_ 22 (at_ := ("_law_seals_right", none)) (st := s__law_seals_right)
  exact ⟨_, fd, ["tape", "trust", "line"], (T.glo 38), F.kp, F.binds (ps := ["tape", "trust", "line"]) fun _ _ _ _ _ _ us hl => match us, hl with | [_, _, _], _ => rfl, fn_okL (P := P) (G := gd w K mg) (k := 6) (ls := lits__law_seals_right) F (T.code F (q := "_law_seals_right" ++ ".<locals>." ++ "<lambda>") (List.mem_of_getElem? (i := 1) rfl)) sc__law_seals_right rfl rfl fun A outer s H E hr => j__law_seals_right T TB L _ A outer s H E hr⟩
theorem sc_law : FnScope ["script", "tape", "lap", "trust", "line", "number", "content", "one"] ["script"] (defScope s_law) := ⟨rfl, rfl, rfl, by decide +kernel, rfl, by decide +kernel, by decide +kernel⟩
theorem j_law (T : Txt txt K mg h) (TB : ∀ p ∈ txt.cs K, TabB base mg p.1 p.2) (L : Ints mg intL) (f : Addr) (cdv : Value) (A : Around) (outer : List Env) (s : Shared) (H : Hp) (E : XK) (hr : Room 19 (A.deeper (envOfC "law" (defScope s_law) s.heap.objs.size f cdv))) :
    JSs (gd w K mg) (cxOf (L2.CX P w) P w K mg base ["script", "tape", "lap", "trust", "line", "number", "content", "one"] "law" (defScope s_law) f cdv A outer s H E) b_law (defBody s_law) :=
    (jss_cons (js_set (i := 1) sc_law.nd rfl (by first | exact Or.inl rfl | exact Or.inr rfl) (je_call (FnP.at (o__law_begun T TB L) ⟨rfl, rfl, rfl, rfl, rfl⟩ rfl) (hr.mono (by first | decide | omega)) rfl (ja_cons (je_var 0) ja_nil)))
    (jss_cons (js_for (passes_of rfl) rfl (ji_range1 rfl (T.free 27) (je_op (os_add rfl) je_int (je_callB (cs_min rfl) rfl (T.free 39) boot_min (ja_cons (je_callB (cs_len rfl) rfl (T.free 10) boot_len (ja_cons (je_var 0) ja_nil)) (ja_cons je_int ja_nil))))) (jg_name sc_law.nd rfl (by first | exact Or.inl rfl | exact Or.inr rfl)) (jss_cons (js_set (i := 3) sc_law.nd rfl (by first | exact Or.inl rfl | exact Or.inr rfl) (je_make0 (MkP.at (o_Trust___init__ T TB L).2 (T.cls.gm "Trust" (by decide +kernel)) ⟨rfl, rfl, rfl, rfl, rfl⟩ rfl) rfl (hr.mono (by decide)) rfl))
    (jss_cons (js_if (jt_pw (jw_or (jt_cmp (os_ne rfl hr.units) (je_meth0 rfl (T.cls.gm "Trust" (by decide +kernel)) (T.cls.ins "Trust" (by decide +kernel)).cl (MtP.at (o_Trust_size T TB L) ⟨rfl, rfl, rfl, rfl, rfl⟩ rfl) (hr.mono (by first | decide | omega)) (je_var 3)) je_int) (jw_or1 (jt_cmp os_isNot (je_meth rfl (T.cls.gm "Trust" (by decide +kernel)) (T.cls.ins "Trust" (by decide +kernel)).cl (MtP.at (o_Trust_is_name T TB L) ⟨rfl, rfl, rfl, rfl, rfl⟩ rfl) (hr.mono (by first | decide | omega)) (je_var 3) (ja_cons (je_tup (ja_cons je_str (ja_cons je_int ja_nil))) ja_nil)) je_bool)))) (jss_one (js_ret je_bool)) jss_nil)
    (jss_cons (js_set (i := 4) sc_law.nd rfl (by first | exact Or.inl rfl | exact Or.inr rfl) (je_call (FnP.at (o__law_named T TB L) ⟨rfl, rfl, rfl, rfl, rfl⟩ rfl) (hr.mono (by first | decide | omega)) rfl (ja_cons (je_var 1) (ja_cons (je_var 3) ja_nil))))
    (jss_cons (js_if (jt_pw (jw_or (jt_cmp os_is (je_var 4) je_none) (jw_or1 (jt_not (jt_val (je_call (FnP.at (o__law_seals_right T TB L) ⟨rfl, rfl, rfl, rfl, rfl⟩ rfl) (hr.mono (by first | decide | omega)) rfl (ja_cons (je_var 1) (ja_cons (je_var 3) (ja_cons (je_var 4) ja_nil))))))))) (jss_one (js_ret je_bool)) jss_nil)
    (jss_one (js_for (passes_of rfl) rfl (ji_enumL rfl rfl (T.free 40) (je_var 4)) (jg_tup rfl rfl (jgs_cons (jg_name sc_law.nd rfl (by first | exact Or.inl rfl | exact Or.inr rfl)) (jgs_cons (jg_name sc_law.nd rfl (by first | exact Or.inl rfl | exact Or.inr rfl)) jgs_nil))) (jss_one (js_if (jt_pw (jw_or (jt_cmp (os_ne rfl hr.units) (je_meth rfl (T.cls.gm "Trust" (by decide +kernel)) (T.cls.ins "Trust" (by decide +kernel)).cl (MtP.at (o_Trust_content T TB L) ⟨rfl, rfl, rfl, rfl, rfl⟩ rfl) (hr.mono (by first | decide | omega)) (je_var 3) (ja_cons (je_tup (ja_cons je_str (ja_cons (je_var 5) ja_nil))) ja_nil)) (je_var 6)) (jw_or (jt_cmp os_isNot (je_meth rfl (T.cls.gm "Trust" (by decide +kernel)) (T.cls.ins "Trust" (by decide +kernel)).cl (MtP.at (o_Trust_is_name T TB L) ⟨rfl, rfl, rfl, rfl, rfl⟩ rfl) (hr.mono (by first | decide | omega)) (je_var 3) (ja_cons (je_tup (ja_cons je_str (ja_cons (je_var 5) ja_nil))) ja_nil)) je_bool) (jw_or1 (jt_cmp (os_ne rfl hr.units) (je_meth rfl (T.cls.gm "Trust" (by decide +kernel)) (T.cls.ins "Trust" (by decide +kernel)).cl (MtP.at (o_Trust_name T TB L) ⟨rfl, rfl, rfl, rfl, rfl⟩ rfl) (hr.mono (by first | decide | omega)) (je_var 3) (ja_cons (je_var 6) ja_nil)) (je_tup (ja_cons je_str (ja_cons (je_var 5) ja_nil)))))))) (jss_one (js_ret je_bool)) jss_nil)))))))))
    (jss_cons (js_set (i := 3) sc_law.nd rfl (by first | exact Or.inl rfl | exact Or.inr rfl) (je_make0 (MkP.at (o_Trust___init__ T TB L).2 (T.cls.gm "Trust" (by decide +kernel)) ⟨rfl, rfl, rfl, rfl, rfl⟩ rfl) rfl (hr.mono (by decide)) rfl))
    (jss_cons (js_set (i := 7) sc_law.nd rfl (by first | exact Or.inl rfl | exact Or.inr rfl) (je_meth rfl (T.cls.gm "Trust" (by decide +kernel)) (T.cls.ins "Trust" (by decide +kernel)).cl (MtP.at (o_Trust_name T TB L) ⟨rfl, rfl, rfl, rfl, rfl⟩ rfl) (hr.mono (by first | decide | omega)) (je_var 3) (ja_cons (je_tup (ja_cons je_str (ja_cons je_str ja_nil))) ja_nil)))
    (jss_one (js_ret (je_and (je_cmp (os_eq rfl hr.units) (je_var 7) (je_tup (ja_cons je_str (ja_cons je_int ja_nil)))) (je_and (je_cmp (os_eq rfl hr.units) (je_meth rfl (T.cls.gm "Trust" (by decide +kernel)) (T.cls.ins "Trust" (by decide +kernel)).cl (MtP.at (o_Trust_name T TB L) ⟨rfl, rfl, rfl, rfl, rfl⟩ rfl) (hr.mono (by first | decide | omega)) (je_var 3) (ja_cons (je_tup (ja_cons je_str (ja_cons je_int (ja_cons je_int ja_nil)))) ja_nil)) (je_tup (ja_cons je_str (ja_cons je_int ja_nil)))) (je_and (je_cmp (os_eq rfl hr.units) (je_meth rfl (T.cls.gm "Trust" (by decide +kernel)) (T.cls.ins "Trust" (by decide +kernel)).cl (MtP.at (o_Trust_content T TB L) ⟨rfl, rfl, rfl, rfl, rfl⟩ rfl) (hr.mono (by first | decide | omega)) (je_var 3) (ja_cons (je_var 7) ja_nil)) (je_tup (ja_cons je_str (ja_cons je_str ja_nil)))) (je_one (je_not (je_isiC rfl (isiC_ok rfl T.cls (by decide +kernel)) rfl (T.free 5) rfl (T.cls.gm "PurseError" (by decide +kernel)) (je_var 1)))))))))))))
theorem o_law (T : Txt txt K mg h) (TB : ∀ p ∈ txt.cs K, TabB base mg p.1 p.2) (L : Ints mg intL) : FnP (gd w K mg) P base 20 "law" 1 f_law := by
  obtain ⟨fd, F⟩ := T.fun_ 23 (at_ := ("law", none)) (st := s_law)
  exact ⟨_, fd, ["script"], (T.glo 41), F.kp, F.binds (ps := ["script"]) fun _ _ _ _ _ _ us hl => match us, hl with | [_], _ => rfl, fn_ok (P := P) (G := gd w K mg) (k := 19) F sc_law rfl rfl (by decide) fun cdv A outer s H E hr => j_law T TB L _ cdv A outer s H E hr⟩
theorem glo_law (T : Txt txt K mg h) : mg "law" = some (.ref (He.ga K "law")) := T.glo 41
theorem end_law (T : Txt txt K mg h) (L : Ints mg intL) : ∃ fd : FuncData, (∀ (s : Shared) (u : Value), BindsTo s fd ⟨[u], []⟩ [(("script" : Str), u)]) ∧ ∀ base : Heap, (∀ p ∈ txt.cs K, TabB base mg p.1 p.2) → FnOk P w K mg base (L2.CX P w) 20 (He.ga K "law") fd ["script"] (spOf (gd w K mg) 1 f_law) := by
  obtain ⟨fd, F⟩ := T.fun_ 23 (at_ := ("law", none)) (st := s_law)
  refine ⟨fd, fun s u => ?_, fun base TB => fn_ok (P := P) (G := gd w K mg) (k := 19) F sc_law rfl rfl (by decide) fun cdv A outer s H E hr => j_law T TB L _ cdv A outer s H E hr⟩
  obtain ⟨oc, od, kV, doc, pm, an, cdv, ct, osl, rfl, lk, hcd⟩ := F.ex
  exact .of_eq rfl
end
end Q

set_option Elab.async false
set_option maxRecDepth 100000
set_option linter.all false
set_option autoImplicit false
/-! RA: how the printed functions are evaluated (for simp). -/
namespace Q
open PySem PySem.Spec PyProof.Rows L2 LamX

section
variable {α β : Type} {a : α} {h h' : AH} {c : String} {fs : List (String × PyData)} {k : α → AH → Out β} {ks : α → AH → OutS} {ρ : Env'} {m m1 m2 : SemE} {t t1 t2 : SemT} {ms : SemA} {b1 b2 : SemS}
@[simp] theorem out_ok : (Out.ok a h).bind k = k a h := rfl
@[simp] theorem out_err : (Out.err c fs h : Out α).bind k = .err c fs h := rfl
@[simp] theorem out_bad : (Out.bad : Out α).bind k = .bad := rfl
@[simp] theorem st_ok : (Out.ok a h).st ks = ks a h := rfl
@[simp] theorem st_err : (Out.err c fs h : Out α).st ks = .err c fs h := rfl
@[simp] theorem st_bad : (Out.bad : Out α).st ks = .bad := rfl
@[simp] theorem ofOpt_some : Out.ofOpt (some a) h = .ok a h := rfl
@[simp] theorem ofOpt_none : (Out.ofOpt none h : Out α) = .bad := rfl
@[simp] theorem ev_var (i : Nat) : eVar i ρ h = (match ρ[i]? with | some (some x) => .ok x h | _ => .bad) := rfl
@[simp] theorem ev_c (x : PyData) : eC x ρ h = .ok (.d x) h := rfl
@[simp] theorem ev_op (o : Op2) : eOp o m1 m2 ρ h = (m1 ρ h).bind fun x h1 => (m2 ρ h1).bind fun y h2 => .ofOpt (o x y h2) h2 := rfl
@[simp] theorem ev_un (o : Op1) : eUn o m ρ h = (m ρ h).bind fun x h1 => .ofOpt (o x h1) h1 := rfl
@[simp] theorem ev_app (o : OpN) : eApp o ms ρ h = (ms ρ h).bind fun xs h1 => .ofOpt (o xs h1) h1 := rfl
@[simp] theorem ev_nil : aNil ρ h = .ok [] h := rfl
@[simp] theorem ev_cons : aCons m ms ρ h = (m ρ h).bind fun x h1 => (ms ρ h1).bind fun xs h2 => .ok (x :: xs) h2 := rfl
@[simp] theorem ev_call (n : Nat) (fn : Fn) : eCall n fn ms ρ h = (ms ρ h).bind fun xs h1 => if xs.all W.flat = true ∧ xs.length = n then fn xs h1 else .bad := rfl
@[simp] theorem ev_and : eAnd m1 m2 ρ h = (m1 ρ h).bind fun x h1 => match x with | .d (.bool true) => m2 ρ h1 | .d (.bool false) => .ok (.d (.bool false)) h1 | _ => .bad := rfl
@[simp] theorem ev_or : eOr m1 m2 ρ h = (m1 ρ h).bind fun x h1 => match x with | .d (.bool true) => .ok (.d (.bool true)) h1 | .d (.bool false) => m2 ρ h1 | _ => .bad := rfl
@[simp] theorem ev_not : eNot m ρ h = (m ρ h).bind fun x h1 => match x with | .d (.bool b) => .ok (.d (.bool (!b))) h1 | _ => .bad := rfl
@[simp] theorem ev_if : eIf t m1 m2 ρ h = (t ρ h).bind fun b h1 => if b = true then m1 ρ h1 else m2 ρ h1 := rfl
@[simp] theorem ev_tOf : tOf m ρ h = (m ρ h).bind fun x h1 => match x with | .d (.bool b) => .ok b h1 | _ => .bad := rfl
@[simp] theorem ev_tAnd : tAndS t1 t2 ρ h = (t1 ρ h).bind fun b h1 => if b = true then t2 ρ h1 else .ok false h1 := rfl
@[simp] theorem ev_tOr : tOrS t1 t2 ρ h = (t1 ρ h).bind fun b h1 => if b = true then .ok true h1 else t2 ρ h1 := rfl
@[simp] theorem ev_tNot : tNotS t ρ h = (t ρ h).bind fun b h1 => .ok (!b) h1 := rfl
@[simp] theorem ev_tYes : tYesS ρ h = .ok true h := rfl
@[simp] theorem ev_tup : eTup ms ρ h = (ms ρ h).bind fun xs h1 => .ofOpt ((allD xs).bind fun ds => if ds.length ≤ 1000 then some (.d (.tuple ds)) else none) h1 := rfl
@[simp] theorem ev_lstD : eLstD ms ρ h = (ms ρ h).bind fun xs h1 => .ofOpt ((allD xs).bind fun ds => if ds.length ≤ 1000 then some (.d (.list ds)) else none) h1 := rfl
@[simp] theorem ev_lstH : eLstH ms ρ h = (ms ρ h).bind fun xs h1 => if (xs.all W.flat = true ∧ xs.length ≤ 1000) then .ok (.ref h1.n) (h1.new (.lst xs)) else .bad := rfl
@[simp] theorem ev_dctD : eDctD ρ h = .ok (.d (.dict [])) h := rfl
@[simp] theorem ev_dctH : eDctH ρ h = .ok (.ref h.n) (h.new (.dct [])) := rfl
@[simp] theorem ev_lam (i : Nat) : eLam i ρ h = .ok (.clo i) h := rfl
@[simp] theorem ev_clos : eClos ms ρ h = (ms ρ h).bind fun xs h1 => .ofOpt ((allC xs).bind fun ks => if ks.length ≤ 1000 then some (.clos ks) else none) h1 := rfl
@[simp] theorem ev_chain (o o' : Op2) (m3 : SemE) : eChain o o' m1 m2 m3 ρ h = (m1 ρ h).bind fun x h1 => (m2 ρ h1).bind fun y h2 => match o x y h2 with
  | some (.d (.bool true)) => (m3 ρ h2).bind fun z h3 => .ofOpt (o' y z h3) h3
  | some (.d (.bool false)) => .ok (.d (.bool false)) h2
  | _ => .bad := rfl
@[simp] theorem ev_disp (ks : List Str) : eDisp ks ms ρ h = (ms ρ h).bind fun ws h1 => if ws.all W.flat = true ∧ ws.length = ks.length then .ok (.ref h1.n) (h1.new (.dct ((ks.zip ws).map fun p => (.str p.1, p.2)))) else .bad := rfl
@[simp] theorem ev_sNil : sNil ρ h = .nx ρ h := rfl
@[simp] theorem ev_sSeq : sSeq b1 b2 ρ h = (match b1 ρ h with | .nx ρ' h' => b2 ρ' h' | o => o) := rfl
@[simp] theorem ev_sExpr : sExpr m ρ h = (m ρ h).st fun _ h1 => .nx ρ h1 := rfl
@[simp] theorem ev_sRet : sRet m ρ h = (m ρ h).st fun x h1 => .rt x h1 := rfl
@[simp] theorem ev_sRetN : sRetN ρ h = .rt (.d .none) h := rfl
@[simp] theorem ev_sIf : sIf t b1 b2 ρ h = (t ρ h).st fun c h1 => if c = true then b1 ρ h1 else b2 ρ h1 := rfl
@[simp] theorem ev_sSet (i : Nat) : sSet i m ρ h = (m ρ h).st fun x h1 => .nx (ρ.set i (some x)) h1 := rfl
@[simp] theorem ev_sBreak : sBreak ρ h = .bk ρ h := rfl
@[simp] theorem ev_sCont : sCont ρ h = .ct ρ h := rfl
@[simp] theorem ev_sRaise (c : String) : sRaise c ρ h = .err c [] h := rfl
@[simp] theorem ev_sPar (i j : Nat) : sPar i j ms ρ h = (ms ρ h).st fun xs h1 => match xs with
  | [x, y] => .nx ((ρ.set i (some x)).set j (some y)) h1
  | _ => .bad := rfl
@[simp] theorem ev_sAsg (g : SemG) : sAsg g m ρ h = (m ρ h).st fun x h1 => match g x ρ with
  | some ρ' => .nx ρ' h1
  | none => .bad := rfl
@[simp] theorem ev_gN (i : Nat) (x : W) : gN i x ρ = some (ρ.set i (some x)) := rfl
@[simp] theorem ev_fld (c f : String) : eFld c f m ρ h = (m ρ h).bind fun x h1 => match x with
  | .ref i => match h1.f i with
    | some (.ins c' fs) => if c' = c then .ofOpt (lookS f fs) h1 else .bad
    | _ => .bad
  | _ => .bad := rfl
@[simp] theorem ev_meth (c n : String) (np : Nat) (fn : Fn) : eMeth c n np fn m ms ρ h = (m ρ h).bind fun x h1 => match x with
  | .ref i => match h1.f i with
    | some (.ins c' fs) => if c' = c ∧ noS n fs = true then (ms ρ h1).bind fun xs h2 => if xs.all W.flat = true ∧ xs.length + 1 = np then fn (.ref i :: xs) h2 else .bad else .bad
    | _ => .bad
  | _ => .bad := rfl
@[simp] theorem ev_make (c : String) (np : Nat) (fn : Fn) : eMake c np fn ms ρ h = (ms ρ h).bind fun xs h1 => if xs.all W.flat = true ∧ xs.length + 1 = np then (fn (.ref h1.n :: xs) (h1.new (.ins c []))).bind fun r h2 => match r with
  | .d .none => .ok (.ref h1.n) h2
  | _ => .bad else .bad := rfl
@[simp] theorem ev_fldS (c f : String) : sFldS c f m m1 ρ h = (m1 ρ h).st fun w h1 => (m ρ h1).st fun x h2 => match x with
  | .ref i => match h2.f i with
    | some (.ins c' fs) => if c' = c ∧ w.flat = true ∧ fs.length < 1000 then .nx ρ (h2.set i (.ins c' (putS f w fs))) else .bad
    | _ => .bad
  | _ => .bad := rfl
@[simp] theorem ev_put (mi mv : SemE) : sPut m mi mv ρ h = (mv ρ h).st fun w h1 => (m ρ h1).st fun x h2 => (mi ρ h2).st fun y h3 => putIn w x y ρ h3 := rfl
@[simp] theorem ev_mt (f : OpM) : eMt f m ms ρ h = (m ρ h).bind fun x h1 => match lstAt h1 x with
  | some _ => (ms ρ h1).bind fun xs h2 => match lstAt h2 x with
    | some (i, ws) => match f i ws xs h2 with
      | some (z, h3) => .ok z h3
      | none => .bad
    | none => .bad
  | none => .bad := rfl
@[simp] theorem ev_seq : iSeq m ρ h = (m ρ h).bind fun x h1 => match x with
  | .d (.list ds) => (.ok (ds.map W.d, (fun _ => True : AH → Prop)) h1 : Out (List W × (AH → Prop)))
  | .d (.tuple ds) => .ok (ds.map W.d, (fun _ => True : AH → Prop)) h1
  | .ref i => match h1.f i with
    | some (.lst ws) => .ok (ws, (fun h => h.f i = some (.lst ws) : AH → Prop)) h1
    | _ => .bad
  | .clos ks => .ok (ks.map W.clo, (fun _ => True : AH → Prop)) h1
  | _ => .bad := rfl
end
@[simp] theorem flat_d (x : PyData) : (W.d x).flat = true := rfl
@[simp] theorem flat_ref (i : Nat) : (W.ref i).flat = true := rfl
@[simp] theorem flat_exc (c : String) (fs : List (String × PyData)) : (W.exc c fs).flat = true := rfl
@[simp] theorem flat_clo (k : Nat) : (W.clo k).flat = false := rfl
@[simp] theorem flat_clos (k : List Nat) : (W.clos k).flat = false := rfl
@[simp] theorem toD_d (h : AH) (x : PyData) : toD h (.d x) = some x := rfl
@[simp] theorem set_f (h : AH) (i : Nat) (o : AO) (j : Nat) : (h.set i o).f j = if j = i then some o else h.f j := rfl
@[simp] theorem set_n (h : AH) (i : Nat) (o : AO) : (h.set i o).n = h.n := rfl
@[simp] theorem new_f (h : AH) (o : AO) (j : Nat) : (h.new o).f j = if j = h.n then some o else h.f j := rfl
@[simp] theorem new_n (h : AH) (o : AO) : (h.new o).n = h.n + 1 := rfl
@[simp] theorem at0 {α : Type} (a : α) (l : List α) : atI (a :: l) 0 = some a := by simp [atI, ixN]
@[simp] theorem at1 {α : Type} (a b : α) (l : List α) : atI (a :: b :: l) 1 = some b := by
  simp only [atI, ixN]
  rw [if_pos (by simp), if_pos (by simp only [List.length_cons]; omega)]
  rfl
@[simp] theorem ev_allD_map (ds : List PyData) : allD (ds.map W.d) = some ds := allD_map ds
@[simp] theorem allD_nil : allD [] = some [] := rfl
@[simp] theorem allD_d (x : PyData) (ws : List W) : allD (.d x :: ws) = (allD ws).map (x :: ·) := rfl
/-- only the objects in S may have changed, and new ones come -/
def Same (S : List Nat) (h h' : AH) : Prop := h.n ≤ h'.n ∧ ∀ j, j < h.n → j ∉ S → h'.f j = h.f j
theorem Same.refl (S : List Nat) (h : AH) : Same S h h := ⟨Nat.le_refl _, fun _ _ _ => rfl⟩
theorem Same.trans {S : List Nat} {h h1 h2 : AH} (a : Same S h h1) (b : Same S h1 h2) : Same S h h2 := ⟨Nat.le_trans a.1 b.1, fun j hj hs => by rw [b.2 j (Nat.lt_of_lt_of_le hj a.1) hs, a.2 j hj hs]⟩
theorem Same.mono {S S' : List Nat} {h h1 : AH} (a : Same S h h1) (s : ∀ j ∈ S, j ∈ S') : Same S' h h1 := ⟨a.1, fun j hj hs => a.2 j hj fun z => hs (s j z)⟩
theorem Same.new {S : List Nat} {h h' : AH} {o : AO} (a : Same S h h') : Same S h (h'.new o) := ⟨Nat.le_trans a.1 (Nat.le_succ _), fun j hj hs => by
  have := Nat.lt_of_lt_of_le hj a.1
  rw [new_f, if_neg (by omega)]
  exact a.2 j hj hs⟩
theorem Same.set {S : List Nat} {h h' : AH} {i : Nat} {o : AO} (a : Same S h h') (hi : i ∈ S ∨ h.n ≤ i) : Same S h (h'.set i o) := ⟨a.1, fun j hj hs => by
  rw [set_f, if_neg (fun z => by
    subst z
    rcases hi with q | q
    · exact hs q
    · omega)]
  exact a.2 j hj hs⟩
end Q

set_option Elab.async false
set_option maxRecDepth 100000
set_option linter.all false
set_option autoImplicit false
/-! RB: data as keys, pure comprehensions, loops. -/
namespace Q
open PySem PySem.Spec PyProof.Rows L2 LamX

/-- data without bools, lists and dicts, nested at most so deep -/
def ck : Nat → PyData → Bool
  | _, .none => true
  | _, .int _ => true
  | _, .str s => PyData.canLay0 (.str s)
  | n + 1, .tuple xs => xs.all (ck n)
  | _, _ => false
theorem ck_none (n : Nat) : ck n .none = true := by cases n <;> rfl
theorem ck_int (n : Nat) (i : Int) : ck n (.int i) = true := by cases n <;> rfl
theorem ck_str (n : Nat) (s : Str) : ck n (.str s) = PyData.canLay0 (.str s) := by cases n <;> rfl
theorem ck_tup (n : Nat) (xs : List PyData) : ck (n + 1) (.tuple xs) = xs.all (ck n) := rfl
theorem ck_bool (n : Nat) (b : Bool) : ck n (.bool b) = false := by cases n <;> rfl
theorem ck_list (n : Nat) (b : List PyData) : ck n (.list b) = false := by cases n <;> rfl
theorem ck_dict (n : Nat) (b : List (PyData × PyData)) : ck n (.dict b) = false := by cases n <;> rfl
/-- by the shape -/
theorem ck_rec {P : Nat → PyData → Prop} (h0 : ∀ n, P n .none) (h1 : ∀ n i, P n (.int i)) (h2 : ∀ n s, PyData.canLay0 (.str s) = true → P n (.str s)) (h3 : ∀ n xs, (∀ x ∈ xs, ck n x = true) → (∀ x ∈ xs, P n x) → P (n + 1) (.tuple xs)) : ∀ (n : Nat) (d : PyData), ck n d = true → P n d
  | n, .none, _ => h0 n
  | n, .int i, _ => h1 n i
  | n, .str s, h => h2 n s (by rw [ck_str] at h; exact h)
  | 0, .tuple xs, h => by cases h
  | n + 1, .tuple xs, h => by
    rw [ck_tup, List.all_eq_true] at h
    exact h3 n xs h fun x hx => ck_rec h0 h1 h2 h3 n x (h x hx)
  | n, .bool _, h => by rw [ck_bool] at h; cases h
  | n, .list _, h => by rw [ck_list] at h; cases h
  | n, .dict _, h => by rw [ck_dict] at h; cases h
theorem ck_succ (n : Nat) (d : PyData) (h : ck n d = true) : ck (n + 1) d = true := by
  refine ck_rec (P := fun n d => ck (n + 1) d = true) ?_ ?_ ?_ ?_ n d h
  · exact fun n => ck_none _
  · exact fun n i => ck_int _ i
  · exact fun n s h => by rw [ck_str]; exact h
  · exact fun n xs h ih => by rw [ck_tup, List.all_eq_true]; exact ih
theorem ck_mono {n m : Nat} {d : PyData} (h : ck n d = true) (l : n ≤ m) : ck m d = true := by
  induction l with
  | refl => exact h
  | step _ ih => exact ck_succ _ _ ih
theorem all_plain {n : Nat} {ds : List PyData} (h : ∀ d ∈ ds, d.plain = true ∧ d.canLay0 = true ∧ d.depth ≤ n) : PyData.plainAll ds = true ∧ PyData.canLayAll0 ds = true ∧ PyData.depthAll ds ≤ n := by
  induction ds with
  | nil => exact ⟨rfl, rfl, Nat.zero_le _⟩
  | cons x xs ih =>
    obtain ⟨a, b, c⟩ := ih fun y hy => h y (List.mem_cons_of_mem _ hy)
    obtain ⟨a', b', c'⟩ := h x (List.mem_cons_self ..)
    refine ⟨by simp [PyData.plainAll, a, a'], by simp [PyData.canLayAll0, b, b'], ?_⟩
    simp only [PyData.depthAll]
    omega
theorem ck_plain (n : Nat) (d : PyData) (h : ck n d = true) : d.plain = true ∧ d.canLay0 = true ∧ d.depth ≤ n := by
  refine ck_rec (P := fun n d => d.plain = true ∧ d.canLay0 = true ∧ d.depth ≤ n) ?_ ?_ ?_ ?_ n d h
  · exact fun n => ⟨rfl, rfl, Nat.zero_le _⟩
  · exact fun n i => ⟨rfl, rfl, Nat.zero_le _⟩
  · exact fun n s h => ⟨rfl, h, Nat.zero_le _⟩
  · intro n xs h ih
    obtain ⟨a, b, c⟩ := all_plain ih
    refine ⟨by simpa [PyData.plain] using a, by simpa [PyData.canLay0] using b, ?_⟩
    simp only [PyData.depth]
    omega
theorem ck_okD {n : Nat} {d : PyData} (h : ck n d = true) (l : n ≤ 64) : okD d = true := by
  obtain ⟨a, b, c⟩ := ck_plain n d h
  simp only [okD, a, Bool.true_and, decide_eq_true_eq]
  omega
theorem ck_shaped {n : Nat} {d : PyData} (h : ck n d = true) (l : n ≤ 64) : SeqAt.shaped d = true := by
  obtain ⟨a, b, c⟩ := ck_plain n d h
  simp only [SeqAt.shaped, b, Bool.true_and, decide_eq_true_eq]
  omega
theorem cks_plain {n : Nat} {ds : List PyData} (h : ∀ d ∈ ds, ck n d = true) : PyData.plainAll ds = true ∧ PyData.canLayAll0 ds = true ∧ PyData.depthAll ds ≤ n := all_plain fun d hd => ck_plain n d (h d hd)
theorem all_key {n : Nat} {ds : List PyData} (h : ∀ d ∈ ds, ∃ k, keyD d = some k ∧ k.depth ≤ n) : ∃ ks, keyDs ds = some ks ∧ NestedKey.depthAll ks ≤ n := by
  induction ds with
  | nil => exact ⟨[], rfl, Nat.zero_le _⟩
  | cons x xs ih =>
    obtain ⟨ks, a, b⟩ := ih fun y hy => h y (List.mem_cons_of_mem _ hy)
    obtain ⟨k, a', b'⟩ := h x (List.mem_cons_self ..)
    refine ⟨k :: ks, by simp [keyDs, a, a'], ?_⟩
    simp only [NestedKey.depthAll]
    omega
theorem ck_key (n : Nat) (d : PyData) (h : ck n d = true) : ∃ k, keyD d = some k ∧ k.depth ≤ n := by
  refine ck_rec (P := fun n d => ∃ k, keyD d = some k ∧ k.depth ≤ n) ?_ ?_ ?_ ?_ n d h
  · exact fun n => ⟨.none, rfl, Nat.zero_le _⟩
  · exact fun n i => ⟨.num i, rfl, Nat.zero_le _⟩
  · exact fun n s h => ⟨.text s, rfl, Nat.zero_le _⟩
  · intro n xs h ih
    obtain ⟨ks, a, b⟩ := all_key ih
    refine ⟨.tup ks, by simp [keyD, a], ?_⟩
    simp only [NestedKey.depth]
    omega
theorem ck_keyOk {n : Nat} {d : PyData} (h : ck n d = true) (l : n ≤ 8) : keyOk d := by
  obtain ⟨k, a, b⟩ := ck_key n d h
  exact ⟨k, a, Nat.le_trans b l⟩
theorem keyDs_inj {P P' : PyData → Prop} (inj : ∀ a b, P a → P' b → keyD a = keyD b → a = b) (so : ∀ a, P a → ∃ k, keyD a = some k) (so' : ∀ a, P' a → ∃ k, keyD a = some k) : ∀ xs ys : List PyData, (∀ x ∈ xs, P x) → (∀ y ∈ ys, P' y) → keyDs xs = keyDs ys → xs = ys
  | [], [], _, _, _ => rfl
  | [], y :: ys, _, hy, e => by
    obtain ⟨ks, q, _⟩ := all_key (n := 0) (ds := []) (by simp)
    obtain ⟨k, a⟩ := so' y (hy y (List.mem_cons_self ..))
    simp only [keyDs, a] at e
    split at e
    · cases e
    · cases e
  | x :: xs, [], hx, _, e => by
    obtain ⟨k, a⟩ := so x (hx x (List.mem_cons_self ..))
    simp only [keyDs, a] at e
    split at e
    · cases e
    · cases e
  | x :: xs, y :: ys, hx, hy, e => by
    have some_of : ∀ {Q : PyData → Prop}, (∀ a, Q a → ∃ k, keyD a = some k) → ∀ l : List PyData, (∀ x ∈ l, Q x) → ∃ ks, keyDs l = some ks := by
      intro Q so l hl
      induction l with
      | nil => exact ⟨[], rfl⟩
      | cons z zs ih =>
        obtain ⟨ks, a⟩ := ih fun y hy => hl y (List.mem_cons_of_mem _ hy)
        obtain ⟨k, b⟩ := so z (hl z (List.mem_cons_self ..))
        exact ⟨k :: ks, by simp [keyDs, a, b]⟩
    obtain ⟨k, a⟩ := so x (hx x (List.mem_cons_self ..))
    obtain ⟨k', a'⟩ := so' y (hy y (List.mem_cons_self ..))
    obtain ⟨ks, b⟩ := some_of so xs fun y hy => hx y (List.mem_cons_of_mem _ hy)
    obtain ⟨ks', b'⟩ := some_of so' ys fun z hz => hy z (List.mem_cons_of_mem _ hz)
    simp only [keyDs, a, a', b, b', Option.some.injEq, List.cons.injEq] at e
    rw [inj x y (hx x (List.mem_cons_self ..)) (hy y (List.mem_cons_self ..)) (by rw [a, a', e.1]), keyDs_inj inj so so' xs ys (fun y hy => hx y (List.mem_cons_of_mem _ hy)) (fun z hz => hy z (List.mem_cons_of_mem _ hz)) (by rw [b, b', e.2])]
theorem ck_inj (n : Nat) (a b : PyData) (ha : ck n a = true) (m : Nat) (hb : ck m b = true) (e : keyD a = keyD b) : a = b := by
  refine ck_rec (P := fun n a => ∀ (m : Nat) (b : PyData), ck m b = true → keyD a = keyD b → a = b) ?_ ?_ ?_ ?_ n a ha m b hb e
  · intro n m b hb e
    refine ck_rec (P := fun _ b => keyD PyData.none = keyD b → PyData.none = b) ?_ ?_ ?_ ?_ m b hb e
    · exact fun _ _ => rfl
    · exact fun _ _ z => by simp [keyD] at z
    · exact fun _ _ _ z => by simp [keyD] at z
    · intro _ xs h _ z
      obtain ⟨ks, a, _⟩ := all_key fun d hd => ck_key _ d (h d hd)
      simp [keyD, a] at z
  · intro n i m b hb e
    refine ck_rec (P := fun _ b => keyD (.int i) = keyD b → .int i = b) ?_ ?_ ?_ ?_ m b hb e
    · exact fun _ z => by simp [keyD] at z
    · exact fun _ _ z => by simpa [keyD] using z
    · exact fun _ _ _ z => by simp [keyD] at z
    · intro _ xs h _ z
      obtain ⟨ks, a, _⟩ := all_key fun d hd => ck_key _ d (h d hd)
      simp [keyD, a] at z
  · intro n i _ m b hb e
    refine ck_rec (P := fun _ b => keyD (.str i) = keyD b → .str i = b) ?_ ?_ ?_ ?_ m b hb e
    · exact fun _ z => by simp [keyD] at z
    · exact fun _ _ z => by simp [keyD] at z
    · exact fun _ _ _ z => by simpa [keyD] using z
    · intro _ xs h _ z
      obtain ⟨ks, a, _⟩ := all_key fun d hd => ck_key _ d (h d hd)
      simp [keyD, a] at z
  · intro n xs hx ih m b hb e
    obtain ⟨ks, a, _⟩ := all_key fun d hd => ck_key _ d (hx d hd)
    refine ck_rec (P := fun _ b => keyD (.tuple xs) = keyD b → .tuple xs = b) ?_ ?_ ?_ ?_ m b hb e
    · exact fun _ z => by simp [keyD, a] at z
    · exact fun _ _ z => by simp [keyD, a] at z
    · exact fun _ _ _ z => by simp [keyD, a] at z
    · intro m ys h _ z
      obtain ⟨ks', a', _⟩ := all_key fun d hd => ck_key _ d (h d hd)
      simp only [keyD, a, a', Option.map_some, Option.some.injEq, NestedKey.tup.injEq] at z
      rw [keyDs_inj (P := fun d => (∃ k, keyD d = some k) ∧ ∀ (m : Nat) (b : PyData), ck m b = true → keyD d = keyD b → d = b) (P' := fun d => ck m d = true) (fun p q hp hq => hp.2 m q hq) (fun p hp => hp.1) (fun p hp => by
        obtain ⟨k, a, _⟩ := ck_key m p hp
        exact ⟨k, a⟩) xs ys (fun x hx' => ⟨(ck_key _ x (hx x hx')).elim fun k q => ⟨k, q.1⟩, ih x hx'⟩) h (by rw [a, a', z])]
theorem eqvAll_iff : ∀ xs ys : List PyData, (∀ x ∈ xs, ∀ y ∈ ys, (PyData.eqv x y = true ↔ x = y)) → (PyData.eqvAll xs ys = true ↔ xs = ys)
  | [], [], _ => by simp [PyData.eqvAll]
  | [], y :: ys, _ => by simp [PyData.eqvAll]
  | x :: xs, [], _ => by simp [PyData.eqvAll]
  | x :: xs, y :: ys, h => by
    have ih := eqvAll_iff xs ys fun a ha b hb => h a (List.mem_cons_of_mem _ ha) b (List.mem_cons_of_mem _ hb)
    have h0 := h x (List.mem_cons_self ..) y (List.mem_cons_self ..)
    simp [PyData.eqvAll, ih, h0]
theorem ck_eqv (n : Nat) (a b : PyData) (ha : ck n a = true) (m : Nat) (hb : ck m b = true) : PyData.eqv a b = true ↔ a = b := by
  refine ck_rec (P := fun n a => ∀ (m : Nat) (b : PyData), ck m b = true → (PyData.eqv a b = true ↔ a = b)) ?_ ?_ ?_ ?_ n a ha m b hb
  · intro n m b hb
    cases b <;> simp [PyData.eqv]
  · intro n i m b hb
    cases b with
    | bool _ => rw [ck_bool] at hb; cases hb
    | _ => simp [PyData.eqv]
  · intro n i _ m b hb
    cases b <;> simp [PyData.eqv]
  · intro n xs hx ih m b hb
    cases b with
    | tuple ys =>
      cases m with
      | zero => cases hb
      | succ m =>
        rw [ck_tup, List.all_eq_true] at hb
        simp only [PyData.eqv, PyData.tuple.injEq]
        exact eqvAll_iff xs ys fun x hx y hy => ih x hx m y (hb y hy)
    | _ => simp [PyData.eqv]
/-! ### dicts as lists -/
theorem putD_fresh {x : PyData} {v : W} : ∀ {kvs : List (PyData × W)}, lookD x kvs = none → putD x v kvs = kvs ++ [(x, v)]
  | [], _ => rfl
  | (k, u) :: r, e => by
    unfold lookD at e
    unfold putD
    split at e
    · cases e
    · rename_i q
      rw [if_neg q, putD_fresh e]
      rfl
theorem lookD_app {x : PyData} : ∀ (a b : List (PyData × W)), lookD x (a ++ b) = (match lookD x a with | some v => some v | none => lookD x b)
  | [], b => rfl
  | (k, u) :: r, b => by
    show lookD x ((k, u) :: (r ++ b)) = _
    rw [show lookD x ((k, u) :: (r ++ b)) = if keyD k = keyD x then some u else lookD x (r ++ b) from rfl, show lookD x ((k, u) :: r) = if keyD k = keyD x then some u else lookD x r from rfl]
    by_cases e : keyD k = keyD x
    · simp only [if_pos e]
    · simp only [if_neg e, lookD_app r b]
/-! ### pure comprehensions -/
theorem compL_map {chk : AH → Prop} {g : SemG} {me : SemE} {ρ : Env'} {h : AH} (f : W → W) (hc : chk h) : ∀ (ws : List W), (∀ x ∈ ws, ∃ ρ1, g x ρ = some ρ1 ∧ me ρ1 h = .ok (f x) h) → compL chk g tYesS me ρ ws h = .ok (ws.map f) h
  | [], _ => by simp [compL, hc]
  | x :: xs, k => by
    obtain ⟨ρ1, e1, e2⟩ := k x (List.mem_cons_self ..)
    have ih := compL_map f hc xs fun y hy => k y (List.mem_cons_of_mem _ hy)
    simp [compL, hc, e1, e2, ih]
theorem compL_filter {chk : AH → Prop} {g : SemG} {mt : SemT} {me : SemE} {ρ : Env'} {h : AH} (p : W → Bool) (f : W → W) (hc : chk h) : ∀ (ws : List W), (∀ x ∈ ws, ∃ ρ1, g x ρ = some ρ1 ∧ mt ρ1 h = .ok (p x) h ∧ (p x = true → me ρ1 h = .ok (f x) h)) → compL chk g mt me ρ ws h = .ok ((ws.filter p).map f) h
  | [], _ => by simp [compL, hc]
  | x :: xs, k => by
    obtain ⟨ρ1, e1, e2, e3⟩ := k x (List.mem_cons_self ..)
    have ih := compL_filter p f hc xs fun y hy => k y (List.mem_cons_of_mem _ hy)
    cases q : p x with
    | true => simp [compL, hc, e1, e2, q, e3 q, ih]
    | false => simp [compL, hc, e1, e2, q, ih]
/-- a comprehension that changes what it may -/
theorem compL_inv {chk : AH → Prop} {g : SemG} {me : SemE} {ρ : Env'} (I : AH → Prop) (P : W → Prop) (hc : ∀ h, I h → chk h) : ∀ (ws : List W) (h : AH), I h → (∀ x ∈ ws, ∃ ρ1, g x ρ = some ρ1 ∧ ∀ h, I h → ∃ y h', me ρ1 h = .ok y h' ∧ I h' ∧ P y) → ∃ ys h', compL chk g tYesS me ρ ws h = .ok ys h' ∧ I h' ∧ ys.length = ws.length ∧ ∀ y ∈ ys, P y
  | [], h, i, _ => ⟨[], h, by simp [compL, hc h i], i, rfl, fun _ z => by simp at z⟩
  | x :: xs, h, i, k => by
    obtain ⟨ρ1, e1, e2⟩ := k x (List.mem_cons_self ..)
    obtain ⟨y, h1, e3, i1, py⟩ := e2 h i
    obtain ⟨ys, h2, e4, i2, l, q⟩ := compL_inv I P hc xs h1 i1 fun y hy => k y (List.mem_cons_of_mem _ hy)
    refine ⟨y :: ys, h2, by simp [compL, hc h i, e1, e3, e4], i2, by simp [l], fun z hz => ?_⟩
    rcases List.mem_cons.mp hz with rfl | hz
    · exact py
    · exact q z hz
/-- a loop that keeps J -/
theorem forL_inv {chk : AH → Prop} {g : SemG} {b : SemS} (J : Env' → AH → Prop) (hc : ∀ ρ h, J ρ h → chk h) : ∀ (ws : List W) (ρ : Env') (h : AH), J ρ h → (∀ x ∈ ws, ∀ ρ h, J ρ h → ∃ ρ1, g x ρ = some ρ1 ∧ ∃ ρ' h', b ρ1 h = .nx ρ' h' ∧ J ρ' h') → ∃ ρ' h', forL chk g b ws ρ h = .nx ρ' h' ∧ J ρ' h'
  | [], ρ, h, j, _ => ⟨ρ, h, by simp [forL, hc ρ h j], j⟩
  | x :: xs, ρ, h, j, k => by
    obtain ⟨ρ1, e1, ρ2, h2, e2, j2⟩ := k x (List.mem_cons_self ..) ρ h j
    obtain ⟨ρ3, h3, e3, j3⟩ := forL_inv J hc xs ρ2 h2 j2 fun y hy => k y (List.mem_cons_of_mem _ hy)
    exact ⟨ρ3, h3, by simp [forL, hc ρ h j, e1, e2, e3], j3⟩
/-- .. that counts -/
theorem forL_at {chk : AH → Prop} {g : SemG} {b : SemS} (J : Nat → Env' → AH → Prop) (hc : ∀ i ρ h, J i ρ h → chk h) : ∀ (ws : List W) (i : Nat) (ρ : Env') (h : AH), J i ρ h → (∀ (j : Nat) (x : W), ws[j]? = some x → ∀ ρ h, J (i + j) ρ h → ∃ ρ1, g x ρ = some ρ1 ∧ ∃ ρ' h', b ρ1 h = .nx ρ' h' ∧ J (i + j + 1) ρ' h') → ∃ ρ' h', forL chk g b ws ρ h = .nx ρ' h' ∧ J (i + ws.length) ρ' h'
  | [], i, ρ, h, j, _ => ⟨ρ, h, by simp [forL, hc i ρ h j], j⟩
  | x :: xs, i, ρ, h, j, k => by
    obtain ⟨ρ1, e1, ρ2, h2, e2, j2⟩ := k 0 x rfl ρ h j
    obtain ⟨ρ3, h3, e3, j3⟩ := forL_at J hc xs (i + 1) ρ2 h2 j2 fun n y hy ρ h q => by
      have := k (n + 1) y (by simpa using hy) ρ h (by rw [show i + (n + 1) = i + 1 + n by omega]; exact q)
      rw [show i + (n + 1) = i + 1 + n by omega] at this
      exact this
    exact ⟨ρ3, h3, by simp [forL, hc i ρ h j, e1, e2, e3], by rw [List.length_cons, show i + (xs.length + 1) = i + 1 + xs.length by omega]; exact j3⟩
end Q

set_option Elab.async false
set_option maxRecDepth 100000
set_option linter.all false
set_option autoImplicit false
/-! K15b: the plain law of k15. -/
namespace Q
open PySem PySem.Spec PyProof.Rows L2 LamX

theorem isiB_d (x : PyData) (T : String) (h : AH) : isiO (isiB CLS T) (.d x) h = (subB (typD x) T).map bO := by
  simp [isiO, typW, isiB]
@[simp] theorem isi_int (x : PyData) (h : AH) : isiO (isiB CLS "int") (.d x) h = some (.d (.bool (match x with | .int _ => true | .bool _ => true | _ => false))) := by
  rw [isiB_d]; cases x <;> simp [typD, subB, basics, bO]
@[simp] theorem isi_bool (x : PyData) (h : AH) : isiO (isiB CLS "bool") (.d x) h = some (.d (.bool (match x with | .bool _ => true | _ => false))) := by
  rw [isiB_d]; cases x <;> simp [typD, subB, basics, bO]
@[simp] theorem isi_str (x : PyData) (h : AH) : isiO (isiB CLS "str") (.d x) h = some (.d (.bool (match x with | .str _ => true | _ => false))) := by
  rw [isiB_d]; cases x <;> simp [typD, subB, basics, bO]
@[simp] theorem isi_tuple (x : PyData) (h : AH) : isiO (isiB CLS "tuple") (.d x) h = some (.d (.bool (match x with | .tuple _ => true | _ => false))) := by
  rw [isiB_d]; cases x <;> simp [typD, subB, basics, bO]
@[simp] theorem lt_ev (i j : Int) (h : AH) : ltO (.d (.int i)) (.d (.int j)) h = some (.d (.bool (decide (i < j)))) := rfl
@[simp] theorem le_ev (i j : Int) (h : AH) : leO (.d (.int i)) (.d (.int j)) h = some (.d (.bool (decide (i ≤ j)))) := rfl
@[simp] theorem gt_ev (i j : Int) (h : AH) : gtO (.d (.int i)) (.d (.int j)) h = some (.d (.bool (decide (j < i)))) := rfl
@[simp] theorem ge_ev (i j : Int) (h : AH) : geO (.d (.int i)) (.d (.int j)) h = some (.d (.bool (decide (j ≤ i)))) := rfl
@[simp] theorem sub_ev (i j : Int) (h : AH) : subO (.d (.int i)) (.d (.int j)) h = some (.d (.int (i - j))) := rfl
@[simp] theorem add_ev (i j : Int) (h : AH) : addO (.d (.int i)) (.d (.int j)) h = some (.d (.int (i + j))) := rfl
@[simp] theorem neg_ev (i : Int) (h : AH) : negO (.d (.int i)) h = some (.d (.int (-i))) := rfl
@[simp] theorem int_ev (i : Int) (h : AH) : intO [.d (.int i)] h = some (.d (.int i)) := rfl
@[simp] theorem abs_ev (i : Int) (h : AH) : absO [.d (.int i)] h = some (.d (.int (if i < 0 then -i else i))) := rfl
@[simp] theorem ixT_ev (ds : List PyData) (i : Int) (h : AH) : ixO (.d (.tuple ds)) (.d (.int i)) h = (atI ds i).map .d := rfl
@[simp] theorem ixL_ev (ds : List PyData) (i : Int) (h : AH) : ixO (.d (.list ds)) (.d (.int i)) h = (atI ds i).map .d := rfl
@[simp] theorem lenT_ev (ds : List PyData) (h : AH) : lenO [.d (.tuple ds)] h = some (.d (.int (ds.length : Nat))) := rfl
@[simp] theorem lenLd_ev (ds : List PyData) (h : AH) : lenO [.d (.list ds)] h = some (.d (.int (ds.length : Nat))) := rfl
@[simp] theorem isN_ev (x : PyData) (h : AH) : isO (.d x) (.d .none) h = some (.d (.bool (match x with | .none => true | _ => false))) := by
  cases x <;> rfl
theorem eqD_ev (x y : PyData) (h : AH) (o : okD x = true) (o' : okD y = true) : eqO (.d x) (.d y) h = some (.d (.bool (x.eqv y))) := by
  simp [eqO, eqB, toD, o, o', bO]
theorem neD_ev (x y : PyData) (h : AH) (o : okD x = true) (o' : okD y = true) : neO (.d x) (.d y) h = some (.d (.bool (!x.eqv y))) := by
  simp [neO, eqB, toD, o, o', bO]
@[simp] theorem eqI_ev (x y : Int) (h : AH) : eqO (.d (.int x)) (.d (.int y)) h = some (.d (.bool (decide (x = y)))) := by
  rw [eqD_ev _ _ _ (by rfl) (by rfl)]; by_cases e : x = y <;> simp [PyData.eqv, e]
@[simp] theorem neI_ev (x y : Int) (h : AH) : neO (.d (.int x)) (.d (.int y)) h = some (.d (.bool (!decide (x = y)))) := by
  rw [neD_ev _ _ _ (by rfl) (by rfl)]; by_cases e : x = y <;> simp [PyData.eqv, e]
@[simp] theorem eqS_ev (x y : Str) (h : AH) : eqO (.d (.str x)) (.d (.str y)) h = some (.d (.bool (x == y))) := by
  rw [eqD_ev _ _ _ (by rfl) (by rfl)]; simp [PyData.eqv]
theorem eqv_str (a b : Str) : (PyData.str a).eqv (.str b) = (a == b) := by simp [PyData.eqv]
theorem in2_ev (s a b : Str) (h : AH) : inO (.d (.str s)) (.d (.tuple [.str a, .str b])) h = some (.d (.bool (a == s || b == s))) := by
  have e : inB (.d (.str s)) (.d (.tuple [.str a, .str b])) h = some ([PyData.str a, .str b].any fun z => z.eqv (.str s)) := by
    simp only [inB, toD_d]
    rw [if_pos (by simp [PyData.plain, PyData.plainAll, PyData.depth])]
  rw [inO, e]
  simp only [List.any_cons, List.any_nil, eqv_str, Bool.or_false, Option.map, bO]
/-- a number from low on, below 10**18 -/
def isNum (x : PyData) (low : Int) : Bool := match x with
  | .int i => decide (low ≤ i) && decide (i < 1000000000000000000)
  | _ => false
@[simp] theorem ev_is_number (x : PyData) (low : Int) (h : AH) : f_is_number [.d x, .d (.int low)] h = .ok (.d (.bool (isNum x low))) h := by
  unfold f_is_number b_is_number
  cases x with
  | int i =>
    by_cases h1 : low ≤ i <;> simp [mkFn, isNum, h1]
  | _ => simp [mkFn, isNum]
def nameForm (x : PyData) : Bool := match x with
  | .tuple [.str s, b] => (s == "name") && isNum b 0
  | _ => false
@[simp] theorem ev_has_name_form (x : PyData) (h : AH) : f_has_name_form [.d x] h = .ok (.d (.bool (nameForm x))) h := by
  unfold f_has_name_form b_has_name_form
  cases x with
  | tuple ds =>
    rcases ds with _ | ⟨a, _ | ⟨b, _ | ⟨c, ds⟩⟩⟩
    · simp [mkFn, nameForm]
    · simp [mkFn, nameForm]
    · cases a with
      | str s =>
        cases e : (s == Str.ofString "name") <;> simp [mkFn, nameForm, e]
      | _ => simp [mkFn, nameForm]
    · have e : ¬ ((ds.length : Int) + 1 + 1 + 1 = 2) := by omega
      simp [mkFn, nameForm, e]
  | _ => simp [mkFn, nameForm]
def isPlain (x : PyData) : Bool := match x with
  | .none => true
  | .str _ => true
  | .int i => decide (i.natAbs < 1000000000000000000)
  | _ => false
@[simp] theorem ev_is_plain (x : PyData) (h : AH) : f_is_plain [.d x] h = .ok (.d (.bool (isPlain x))) h := by
  unfold f_is_plain b_is_plain
  cases x with
  | int i =>
    simp [mkFn, isPlain]
    split <;> omega
  | _ => simp [mkFn, isPlain]
def isWho (x : PyData) : Bool := match x with
  | .tuple [.str s, b] => (s == "owner" || s == "member") && isNum b 0
  | _ => false
@[simp] theorem ev_is_who (x : PyData) (h : AH) : f_is_who [.d x] h = .ok (.d (.bool (isWho x))) h := by
  unfold f_is_who b_is_who
  cases x with
  | tuple ds =>
    rcases ds with _ | ⟨a, _ | ⟨b, _ | ⟨c, ds⟩⟩⟩
    · simp [mkFn, isWho]
    · simp [mkFn, isWho]
    · cases a with
      | str s =>
        cases e : (s == Str.ofString "owner") <;> cases e' : (s == Str.ofString "member") <;>
          simp [mkFn, isWho, in2_ev, e, e', BEq.comm (b := s)]
      | _ => simp [mkFn, isWho]
    · have e : ¬ ((ds.length : Int) + 1 + 1 + 1 = 2) := by omega
      simp [mkFn, isWho, e]
  | _ => simp [mkFn, isWho]
end Q

set_option Elab.async false
set_option maxRecDepth 100000
set_option linter.all false
set_option autoImplicit false
/-! K15c: Trust. -/
namespace Q
open PySem PySem.Spec PyProof.Rows L2 LamX
open Classical
theorem ck_owner (n : Nat) : ck n (.str (Str.ofString "owner")) = true := by rw [ck_str]; decide +kernel
theorem ck_member (n : Nat) : ck n (.str (Str.ofString "member")) = true := by rw [ck_str]; decide +kernel
theorem ck_name (n : Nat) : ck n (.str (Str.ofString "name")) = true := by rw [ck_str]; decide +kernel

/-- ("name", i) -/
def nm (i : Nat) : PyData := .tuple [.str "name", .int (i : Int)]
/-- a name of one of the first n contents -/
def isNm (n : Nat) (x : PyData) : Bool := match x with
  | .tuple [.str s, .int i] => (s == "name") && (decide (0 ≤ i) && decide (i < 1000000000000000000)) && decide (i < (n : Int))
  | _ => false
def nmsFrom : Nat → List PyData → List (PyData × W)
  | _, [] => []
  | i, x :: xs => (x, .d (nm i)) :: nmsFrom (i + 1) xs
theorem nmsFrom_app : ∀ (i : Nat) (xs ys : List PyData), nmsFrom i (xs ++ ys) = nmsFrom i xs ++ nmsFrom (i + xs.length) ys
  | i, [], ys => by simp [nmsFrom]
  | i, x :: xs, ys => by simp [nmsFrom, nmsFrom_app (i + 1) xs ys, Nat.add_assoc, Nat.add_comm 1]
theorem nmsFrom_len : ∀ (i : Nat) (xs : List PyData), (nmsFrom i xs).length = xs.length
  | i, [] => rfl
  | i, x :: xs => by simp [nmsFrom, nmsFrom_len (i + 1) xs]
theorem lookD_nms {n m : Nat} {x : PyData} (hx : ck n x = true) : ∀ (i : Nat) (cs : List PyData), (∀ c ∈ cs, ck m c = true) → lookD x (nmsFrom i cs) = (idxD x cs i).map fun j => .d (nm j)
  | i, [], _ => rfl
  | i, c :: cs, h => by
    have hc := h c (List.mem_cons_self ..)
    have ih := lookD_nms hx (i + 1) cs fun y hy => h y (List.mem_cons_of_mem _ hy)
    rw [show lookD x (nmsFrom i (c :: cs)) = if keyD c = keyD x then some (.d (nm i)) else lookD x (nmsFrom (i + 1) cs) from rfl, idxD, ih]
    by_cases e : c = x
    · subst e
      rw [if_pos rfl, if_pos ((ck_eqv m c c hc n hx).mpr rfl)]
      rfl
    · rw [if_neg fun z => e (ck_inj m c x hc n hx z), if_neg fun z => e ((ck_eqv m c x hc n hx).mp z)]
theorem idxD_none {n m : Nat} {x : PyData} (hx : ck n x = true) : ∀ (i : Nat) (cs : List PyData), (∀ c ∈ cs, ck m c = true) → (idxD x cs i = none ↔ x ∉ cs)
  | i, [], _ => by simp [idxD]
  | i, c :: cs, h => by
    have hc := h c (List.mem_cons_self ..)
    have ih := idxD_none hx (i + 1) cs fun y hy => h y (List.mem_cons_of_mem _ hy)
    unfold idxD
    by_cases e : c = x
    · subst e
      rw [if_pos ((ck_eqv m c c hc n hx).mpr rfl)]
      simp
    · rw [if_neg fun z => e ((ck_eqv m c x hc n hx).mp z), ih]
      simp [Ne.symm e]
theorem idxD_app_new {n m : Nat} {x : PyData} (hx : ck n x = true) : ∀ (i : Nat) (cs : List PyData), (∀ c ∈ cs, ck m c = true) → x ∉ cs → idxD x (cs ++ [x]) i = some (i + cs.length)
  | i, [], _, _ => by simp [idxD, (ck_eqv n x x hx n hx).mpr rfl]
  | i, c :: cs, h, nx => by
    have hc := h c (List.mem_cons_self ..)
    have ih := idxD_app_new hx (i + 1) cs (fun y hy => h y (List.mem_cons_of_mem _ hy)) fun z => nx (List.mem_cons_of_mem _ z)
    show idxD x (c :: (cs ++ [x])) i = _
    unfold idxD
    rw [if_neg fun z => nx (by rw [(ck_eqv m c x hc n hx).mp z]; exact List.mem_cons_self ..), ih, List.length_cons]
    congr 1
    omega
/-- what a Trust holds: its contents in order, its seals -/
structure TrAt (h : AH) (t : Nat) (cs sl : List PyData) : Prop where
  fo : h.f t = some (.ins "Trust" [("contents", .ref (t + 1)), ("names", .ref (t + 2)), ("seals", .ref (t + 3))])
  fc : h.f (t + 1) = some (.lst (cs.map .d))
  fm : h.f (t + 2) = some (.dct (nmsFrom 0 cs))
  fs : h.f (t + 3) = some (.dct (sl.map fun x => (x, .d (.bool true))))
  lt : t + 3 < h.n
  kc : ∀ x ∈ cs, ck 6 x = true
  ks : ∀ x ∈ sl, ck 3 x = true
  nd : cs.Nodup
theorem TrAt.same {h h' : AH} {t : Nat} {cs sl : List PyData} {S : List Nat} (r : TrAt h t cs sl) (e : Same S h h') (d : ∀ j ∈ S, j < t ∨ t + 3 < j) : TrAt h' t cs sl := by
  have q : ∀ k, k ≤ 3 → h'.f (t + k) = h.f (t + k) := fun k hk => e.2 _ (by have := r.lt; omega) fun z => by
    have := d _ z
    omega
  exact ⟨(q 0 (by omega)).trans r.fo, (q 1 (by omega)).trans r.fc, (q 2 (by omega)).trans r.fm, (q 3 (by omega)).trans r.fs, Nat.lt_of_lt_of_le r.lt e.1, r.kc, r.ks, r.nd⟩
@[simp] theorem noS_nil (f : String) : noS f [] = true := rfl
@[simp] theorem noS_cons (f g : String) (w : W) (fs : List (String × W)) : noS f ((g, w) :: fs) = (g != f && noS f fs) := rfl
theorem isNm_nm {n i : Nat} (hi : i < n) (hl : (n : Int) < 1000000000000000000) : isNm n (nm i) = true := by
  have h0 : (0 : Int) ≤ (i : Int) := by omega
  have h1 : (i : Int) < 1000000000000000000 := by omega
  have h2 : (i : Int) < (n : Int) := by omega
  show ((Str.ofString "name" == Str.ofString "name") && (decide ((0 : Int) ≤ (i : Int)) && decide ((i : Int) < 1000000000000000000)) && decide ((i : Int) < (n : Int))) = true
  rw [decide_eq_true h0, decide_eq_true h1, decide_eq_true h2, beq_self_eq_true]
  rfl
@[simp] theorem lookS_here (f : String) (w : W) (fs : List (String × W)) : lookS f ((f, w) :: fs) = some w := by simp [lookS]
theorem ev_init {h : AH} {t : Nat} (ht : h.f t = some (.ins "Trust" [])) (lt : h.n = t + 1) : ∃ h', f_Trust___init__ [.ref t] h = .ok (.d .none) h' ∧ TrAt h' t [] [] ∧ Same [t] h h' := by
  have e0 : t ≠ h.n := by omega
  have e1 : t ≠ h.n + 1 := by omega
  have e2 : t ≠ h.n + 1 + 1 := by omega
  have e3 : t ≠ t + 1 := by omega
  have e4 : t ≠ t + 1 + 1 := by omega
  have e5 : t ≠ t + 1 + 1 + 1 := by omega
  refine ⟨((((((h.new (.lst [])).set t (.ins "Trust" [("contents", .ref (t + 1))])).new (.dct [])).set t (.ins "Trust" [("contents", .ref (t + 1)), ("names", .ref (t + 2))])).new (.dct [])).set t (.ins "Trust" [("contents", .ref (t + 1)), ("names", .ref (t + 2)), ("seals", .ref (t + 3))])), ?_, ?_, ?_⟩
  · simp [f_Trust___init__, b_Trust___init__, mkFn, ht, e0, e1, e2, e3, e4, e5, putS, lt]
  · refine ⟨?_, ?_, ?_, ?_, ?_, by simp, by simp, by simp⟩ <;> simp [lt, nmsFrom]
  · exact (((((((Same.refl _ h).new).set (by simp)).new).set (by simp)).new).set (by simp))
theorem isNm_iff (n : Nat) (x : PyData) : isNm n x = (nameForm x && (match x with | .tuple [_, .int i] => decide (i < (n : Int)) | _ => false)) := by
  cases x with
  | tuple ds =>
    rcases ds with _ | ⟨a, _ | ⟨b, _ | ⟨c, ds⟩⟩⟩
    · rfl
    · simp [isNm, nameForm]
    · cases a with
      | str s => cases b <;> simp [isNm, nameForm, isNum]
      | _ => simp [isNm, nameForm]
    · simp [isNm, nameForm]
  | _ => rfl
theorem ev_is_name {h : AH} {t : Nat} {cs sl : List PyData} (r : TrAt h t cs sl) (x : PyData) : f_Trust_is_name [.ref t, .d x] h = .ok (.d (.bool (isNm cs.length x))) h := by
  unfold f_Trust_is_name b_Trust_is_name
  rw [isNm_iff]
  cases e : nameForm x with
  | false => simp [mkFn, e]
  | true =>
    unfold nameForm isNum at e
    split at e
    · rename_i s b
      split at e
      · rename_i i
        simp [mkFn, nameForm, isNum, r.fo, r.fc, lenO, lenL] at e ⊢
        simp [e, r.fc]
      · simp at e
    · cases e
@[simp] theorem mkFn_def (n : Nat) (b : SemS) (ws : List W) (h : AH) : mkFn n b ws h = (match b (ws.map some ++ List.replicate (n - ws.length) none) h with
  | .nx _ h' => .ok (.d .none) h'
  | .rt x h' => .ok x h'
  | .err c fs h' => .err c fs h'
  | _ => .bad) := rfl
theorem ix_at {h : AH} {c : Nat} {cs : List PyData} (hc : h.f c = some (.lst (cs.map .d))) {i : Nat} {x : PyData} (hi : cs[i]? = some x) : ixO (.ref c) (.d (.int (i : Int))) h = some (.d x) := by
  have hb : i < cs.length := by
    rw [List.getElem?_eq_some_iff] at hi
    exact hi.1
  simp only [ixO, hc, atI_map]
  simp only [atI, ixN]
  rw [if_pos (by omega), if_pos (by omega)]
  simp [hi]
theorem ev_content_of {h : AH} {t : Nat} {cs sl : List PyData} (r : TrAt h t cs sl) {y x : PyData} {j : Int} (e : isNm cs.length y = true) (e1 : ixO (.d y) (.d (.int 1)) h = some (.d (.int j))) (e2 : ixO (.ref (t + 1)) (.d (.int j)) h = some (.d x)) : f_Trust_content [.ref t, .d y] h = .ok (.d x) h := by
  simp [f_Trust_content, b_Trust_content, r.fo, ev_is_name r, e, e1, e2]
theorem ev_content {h : AH} {t : Nat} {cs sl : List PyData} (r : TrAt h t cs sl) {i : Nat} {x : PyData} (hi : cs[i]? = some x) (hl : (cs.length : Int) < 1000000000000000000) : f_Trust_content [.ref t, .d (nm i)] h = .ok (.d x) h := by
  have hb : i < cs.length := by
    rw [List.getElem?_eq_some_iff] at hi
    exact hi.1
  exact ev_content_of r (isNm_nm hb hl) (by rw [nm, ixT_ev, at1]; rfl) (ix_at r.fc hi)
theorem ev_content_bad {h : AH} {t : Nat} {cs sl : List PyData} (r : TrAt h t cs sl) {x : PyData} (e : isNm cs.length x = false) : f_Trust_content [.ref t, .d x] h = .err "BadName" [] h := by
  simp [f_Trust_content, b_Trust_content, r.fo, ev_is_name r, e]
theorem ev_size {h : AH} {t : Nat} {cs sl : List PyData} (r : TrAt h t cs sl) : f_Trust_size [.ref t] h = .ok (.d (.int cs.length)) h := by
  simp [f_Trust_size, b_Trust_size, r.fo, r.fc, lenO, lenL]
theorem isWho_ck {x : PyData} (h : isWho x = true) : ck 1 x = true := by
  unfold isWho isNum at h
  split at h
  · rename_i s b
    split at h
    · rw [ck_tup]
      simp only [Bool.and_eq_true, Bool.or_eq_true, beq_iff_eq] at h
      rcases h.1 with rfl | rfl <;> simp [ck_int, ck_owner, ck_member]
    · simp at h
  · cases h
theorem isNm_ck {n : Nat} {x : PyData} (h : isNm n x = true) : ck 1 x = true := by
  unfold isNm at h
  split at h
  · rename_i s b
    simp only [Bool.and_eq_true, beq_iff_eq] at h
    rcases h.1.1 with ⟨rfl, _⟩
    rw [ck_tup]
    simp [ck_int, ck_name]
  · cases h
theorem seals_look {x : PyData} (hx : ck 3 x = true) : ∀ {sl : List PyData}, (∀ y ∈ sl, ck 3 y = true) → lookD x (sl.map fun x => (x, W.d (.bool true))) = if x ∈ sl then some (.d (.bool true)) else none
  | [], _ => by simp [lookD]
  | y :: sl, k => by
    have ih := seals_look hx (sl := sl) fun z hz => k z (List.mem_cons_of_mem _ hz)
    have ky := k y (List.mem_cons_self ..)
    simp only [List.map_cons, lookD, ih]
    by_cases e : y = x
    · subst e
      simp
    · rw [if_neg fun z => e (ck_inj 3 y x ky 3 hx z)]
      simp [Ne.symm e]
theorem ev_seal {h : AH} {t : Nat} {cs sl : List PyData} (r : TrAt h t cs sl) {w x : PyData} (ew : isWho w = true) (ex : isNm cs.length x = true) (hl : sl.length < 1000000) : ∃ h' sl', f_Trust_seal [.ref t, .d w, .d x] h = .ok (.d .none) h' ∧ TrAt h' t cs sl' ∧ Same [t + 3] h h' ∧ (∀ y, y ∈ sl' ↔ y = PyData.tuple [w, x] ∨ y ∈ sl) ∧ sl'.length ≤ sl.length + 1 := by
  have kp : ck 3 (.tuple [w, x]) = true := by
    rw [ck_tup]
    simp [ck_mono (isWho_ck ew) (show 1 ≤ 2 by omega), ck_mono (isNm_ck ex) (show 1 ≤ 2 by omega)]
  have ok := ck_keyOk kp (by omega)
  by_cases e : PyData.tuple [w, x] ∈ sl
  · have put : ∀ l : List PyData, (∀ y ∈ l, ck 3 y = true) → .tuple [w, x] ∈ l → putD (.tuple [w, x]) (.d (.bool true)) (l.map fun x => (x, .d (.bool true))) = l.map fun x => (x, .d (.bool true)) := by
      intro l hk hm
      induction l with
      | nil => cases hm
      | cons z l ih =>
        simp only [List.map_cons, putD]
        by_cases q : z = .tuple [w, x]
        · rw [if_pos (by rw [q])]
        · rw [if_neg fun u => q (ck_inj 3 z _ (hk z (List.mem_cons_self ..)) 3 kp u), ih (fun y hy => hk y (List.mem_cons_of_mem _ hy))]
          rcases List.mem_cons.mp hm with u | u
          · exact absurd u.symm q
          · exact u
    refine ⟨h.set (t + 3) (.dct (sl.map fun x => (x, .d (.bool true)))), sl, ?_, ?_, (Same.refl _ h).set (by simp), ?_, by omega⟩
    · simp [f_Trust_seal, b_Trust_seal, r.fo, ev_is_name r, ew, ex, putIn, r.fs, ok, hl, put sl r.ks e, lookS]
    · refine ⟨?_, ?_, ?_, ?_, r.lt, r.kc, r.ks, r.nd⟩ <;> simp [r.fo, r.fc, r.fm]
    · intro y
      constructor
      · exact .inr
      · rintro (rfl | z)
        · exact e
        · exact z
  · have put := putD_fresh (v := .d (.bool true)) (x := .tuple [w, x]) (kvs := sl.map fun x => (x, .d (.bool true))) (by rw [seals_look kp r.ks, if_neg e])
    refine ⟨h.set (t + 3) (.dct ((sl ++ [PyData.tuple [w, x]]).map fun x => (x, .d (.bool true)))), sl ++ [PyData.tuple [w, x]], ?_, ?_, (Same.refl _ h).set (by simp), ?_, by simp⟩
    · simp [f_Trust_seal, b_Trust_seal, r.fo, ev_is_name r, ew, ex, putIn, r.fs, ok, hl, put, lookS]
    · refine ⟨?_, ?_, ?_, ?_, r.lt, r.kc, fun y hy => ?_, r.nd⟩
      · simp [r.fo]
      · simp [r.fc]
      · simp [r.fm]
      · simp
      · rcases List.mem_append.mp hy with q | q
        · exact r.ks y q
        · rw [List.mem_singleton.mp q]
          exact kp
    · intro y
      simp [or_comm]
theorem ev_seal_who {h : AH} {t : Nat} {cs sl : List PyData} (r : TrAt h t cs sl) {w x : PyData} (ew : isWho w = false) : f_Trust_seal [.ref t, .d w, .d x] h = .err "BadWho" [] h := by
  simp [f_Trust_seal, b_Trust_seal, ew]
theorem ev_seal_name {h : AH} {t : Nat} {cs sl : List PyData} (r : TrAt h t cs sl) {w x : PyData} (ew : isWho w = true) (ex : isNm cs.length x = false) : f_Trust_seal [.ref t, .d w, .d x] h = .err "BadName" [] h := by
  simp [f_Trust_seal, b_Trust_seal, ew, ex, r.fo, ev_is_name r]
theorem ev_sealed_who {h : AH} {t : Nat} {cs sl : List PyData} (r : TrAt h t cs sl) {w x : PyData} (ew : isWho w = false) : f_Trust_sealed [.ref t, .d w, .d x] h = .err "BadWho" [] h := by
  simp [f_Trust_sealed, b_Trust_sealed, ew]
theorem ev_sealed_name {h : AH} {t : Nat} {cs sl : List PyData} (r : TrAt h t cs sl) {w x : PyData} (ew : isWho w = true) (ex : isNm cs.length x = false) : f_Trust_sealed [.ref t, .d w, .d x] h = .err "BadName" [] h := by
  simp [f_Trust_sealed, b_Trust_sealed, ew, ex, r.fo, ev_is_name r]
theorem ev_sealed {h : AH} {t : Nat} {cs sl : List PyData} (r : TrAt h t cs sl) {w x : PyData} (ew : isWho w = true) (ex : isNm cs.length x = true) : f_Trust_sealed [.ref t, .d w, .d x] h = .ok (.d (.bool (decide (PyData.tuple [w, x] ∈ sl)))) h := by
  have kp : ck 3 (.tuple [w, x]) = true := by
    rw [ck_tup]
    simp [ck_mono (isWho_ck ew) (show 1 ≤ 2 by omega), ck_mono (isNm_ck ex) (show 1 ≤ 2 by omega)]
  have ok := ck_keyOk kp (by omega)
  have e : inO (.d (.tuple [w, x])) (.ref (t + 3)) h = some (.d (.bool (decide (PyData.tuple [w, x] ∈ sl)))) := by
    simp only [inO, inB, toD, r.fs, ok, if_true, seals_look kp r.ks]
    by_cases q : PyData.tuple [w, x] ∈ sl <;> simp [q, bO]
  simp [f_Trust_sealed, b_Trust_sealed, ew, ex, r.fo, ev_is_name r, lookS, e]
end Q

set_option Elab.async false
set_option maxRecDepth 100000
set_option linter.all false
set_option autoImplicit false
/-! K15d: parts_within, Trust.name. -/
namespace Q
open PySem PySem.Spec PyProof.Rows L2 LamX
open Classical
mutual
def sz : PyData → Nat
  | .tuple xs => szs xs + 1
  | _ => 1
def szs : List PyData → Nat
  | [] => 0
  | x :: xs => sz x + szs xs
end
mutual
/-- all the parts of x have p -/
def pAll (p : PyData → Bool) : PyData → Bool
  | .tuple xs => if nameForm (.tuple xs) = true then p (.tuple xs) else pAlls p xs
  | .none => p .none
  | .bool b => p (.bool b)
  | .int i => p (.int i)
  | .str s => p (.str s)
  | .list xs => p (.list xs)
  | .dict xs => p (.dict xs)
def pAlls (p : PyData → Bool) : List PyData → Bool
  | [] => true
  | x :: xs => pAll p x && pAlls p xs
end
theorem sz_tup (xs : List PyData) : sz (.tuple xs) = szs xs + 1 := by rw [sz]
theorem szs_cons (x : PyData) (xs : List PyData) : szs (x :: xs) = sz x + szs xs := by rw [szs]
theorem szs_nil : szs [] = 0 := by rw [szs]
theorem szs_app : ∀ xs ys : List PyData, szs (xs ++ ys) = szs xs + szs ys
  | [], ys => by simp [szs]
  | x :: xs, ys => by simp only [List.cons_append, szs, szs_app xs ys]; omega
theorem pAlls_app (p : PyData → Bool) : ∀ xs ys : List PyData, pAlls p (xs ++ ys) = (pAlls p xs && pAlls p ys)
  | [], ys => by simp [pAlls]
  | x :: xs, ys => by simp only [List.cons_append, pAlls, pAlls_app p xs ys, Bool.and_assoc]
theorem sz_pos (x : PyData) : 1 ≤ sz x := by
  cases x <;> simp [sz]
theorem szs_len : ∀ xs : List PyData, xs.length ≤ szs xs
  | [] => Nat.le_refl _
  | x :: xs => by
    have := szs_len xs
    have := sz_pos x
    simp only [List.length_cons, szs]
    omega
theorem neNil {h : AH} {l : Nat} {ds : List PyData} (hl : h.f l = some (.lst (ds.map .d))) : neO (.ref l) (.d (.list [])) h = some (.d (.bool (!ds.isEmpty))) := by
  have e : eqB (.ref l) (.d (.list [])) h = some ds.isEmpty := by
    unfold eqB
    simp only [toD, hl, allD_map, Option.map_some]
    cases ds with
    | nil => rfl
    | cons d ds =>
      split
      · simp [PyData.eqv, PyData.eqvAll]
      · simp [eqLen, lenL, hl]
  simp [neO, e, bO]
def isTup (x : PyData) : Bool := match x with
  | .tuple _ => true
  | _ => false
theorem pAll_leaf {p : PyData → Bool} {x : PyData} (e : (isTup x && !nameForm x) = false) : pAll p x = p x := by
  cases x with
  | tuple xs =>
    have : nameForm (.tuple xs) = true := by simpa [isTup] using e
    simp [pAll, this]
  | _ => simp [pAll]
theorem pw_while (x : PyData) (f l : Nat) (fl : f ≠ l) : ∀ (n : Nat) (L F : List PyData) (it : Option W) (h : AH), szs L ≤ n → h.f f = some (.lst (F.map .d)) → h.f l = some (.lst (L.map .d)) → F.length + szs L ≤ 1000000 → ∃ (k : Nat) (ρ' : Option W) (h' : AH) (F' : List PyData), whN (tOf (eOp neO (eVar 2) (eLstD aNil))) (sSeq (sSet 3 (eMt popM (eVar 2) aNil))
    (sIf (tAndS (tOf (eUn (isiO (isiB CLS "tuple")) (eVar 3))) (tNotS (tOf (eCall 1 f_has_name_form (aCons (eVar 3) aNil))))) (sExpr (eMt extendM (eVar 2) (aCons (eVar 3) aNil))) (sExpr (eMt appendM (eVar 1) (aCons (eVar 3) aNil))))) k [some (.d x), some (.ref f), some (.ref l), it] h = some (.nx ([some (.d x), some (.ref f), some (.ref l), ρ']) h') ∧ h'.f f = some (.lst (F'.map .d)) ∧ (∀ p : PyData → Bool, F'.all p = (F.all p && pAlls p L)) ∧ Same [f, l] h h'
  | n, L, F, it, h, hn, hf, hl, hz => by
    rcases List.eq_nil_or_concat L with rfl | ⟨L', y, rfl⟩
    · refine ⟨1, it, h, F, ?_, hf, fun p => by simp [pAlls], Same.refl _ _⟩
      simp [whN, neNil hl]
    · rw [List.concat_eq_append] at *
      rw [szs_app] at hn hz
      have hs : szs [y] = sz y := by simp [szs]
      rw [hs] at hn hz
      have hy := sz_pos y
      cases n with
      | zero => omega
      | succ n =>
        have ne : neO (.ref l) (.d (.list [])) h = some (.d (.bool true)) := by rw [neNil hl]; simp
        have hlen := szs_len L'
        cases q : (isTup y && !nameForm y) with
        | true =>
          obtain ⟨q1, q2⟩ : isTup y = true ∧ nameForm y = false := by simpa using q
          unfold isTup at q1
          split at q1
          · rename_i xs
            have hs2 : sz (.tuple xs) = szs xs + 1 := by simp [sz]
            have hlen2 := szs_len xs
            obtain ⟨k, it', h', F', e1, e2, e3, e4⟩ := pw_while x f l fl n (L' ++ xs) F (some (.d (.tuple xs))) ((h.set l (.lst (L'.map .d))).set l (.lst ((L' ++ xs).map .d))) (by rw [szs_app]; omega) (by simp [fl, hf]) (by simp) (by rw [szs_app]; omega)
            refine ⟨k + 1, it', h', F', ?_, e2, fun p => ?_, ?_⟩
            · have : L'.length + xs.length ≤ 1000000 := by omega
              simp only [List.map_append] at e1
              simp [whN, ne, lstAt, hl, popM, q2, extendM, toD, this]
              exact e1
            · rw [e3, pAlls_app, pAlls_app]
              simp [pAlls, pAll, q2]
            · exact (((Same.refl _ h).set (by simp)).set (by simp)).trans e4
          · cases q1
        | false =>
          obtain ⟨k, it', h', F', e1, e2, e3, e4⟩ := pw_while x f l fl n L' (F ++ [y]) (some (.d y)) ((h.set l (.lst (L'.map .d))).set f (.lst ((F ++ [y]).map .d))) (by omega) (by simp) (by simp [Ne.symm fl]) (by simp; omega)
          refine ⟨k + 1, it', h', F', ?_, e2, fun p => ?_, ?_⟩
          · have hF : F.length < 1000000 := by omega
            simp only [List.map_append] at e1
            cases y with
            | tuple xs =>
              have q2 : nameForm (.tuple xs) = true := by simpa [isTup] using q
              simp [whN, ne, lstAt, hl, hf, fl, popM, q2, appendM, hF]
              exact e1
            | _ =>
              simp [whN, ne, lstAt, hl, hf, fl, popM, appendM, hF]
              exact e1
          · rw [e3, pAlls_app]
            simp [pAlls, pAll_leaf q, Bool.and_assoc, Bool.and_comm (pAlls p L')]
          · exact (((Same.refl _ h).set (by simp)).set (by simp)).trans e4
theorem ev_parts {h : AH} {x : PyData} (hz : sz x ≤ 1000000) : ∃ (f : Nat) (h' : AH) (F : List PyData), f_parts_within [.d x] h = .ok (.ref f) h' ∧ h'.f f = some (.lst (F.map .d)) ∧ (∀ p : PyData → Bool, F.all p = pAll p x) ∧ Same [] h h' := by
  obtain ⟨k, it, h', F, e1, e2, e3, e4⟩ := pw_while x h.n (h.n + 1) (by omega) (sz x) [x] [] none ((h.new (.lst [])).new (.lst [.d x])) (by simp [szs]) (by simp) (by simp) (by simp [szs]; exact hz)
  refine ⟨h.n, h', F, ?_, e2, fun p => by rw [e3]; simp [pAlls], ?_, ?_⟩
  · simp [f_parts_within, b_parts_within]
    rw [sWhile_of e1]
    simp
  · have := e4.1
    simp at this
    omega
  · intro j hj _
    rw [e4.2 j (by simp; omega) (by simp; omega)]
    rw [new_f, if_neg (by simp; omega), new_f, if_neg (by omega)]
end Q

set_option Elab.async false
set_option maxRecDepth 100000
set_option linter.all false
set_option autoImplicit false
/-! K15e: Trust.name. -/
namespace Q
open PySem PySem.Spec PyProof.Rows L2 LamX
open Classical
theorem ev_comp {own : List Nat} {mi : SemI} {g : SemG} {mt : SemT} {me : SemE} {ρ : Env'} {h : AH} : eComp own mi g mt me ρ h = (mi ρ h).bind fun p h1 => (compL p.2 g mt me (wipR ρ own) p.1 h1).bind fun ys h2 => .ofOpt ((allD ys).map fun ds => .d (.list ds)) h2 := rfl
theorem ev_for {mi : SemI} {g : SemG} {b : SemS} {ρ : Env'} {h : AH} : sFor mi g b ρ h = (mi ρ h).st fun p h1 => forL p.2 g b p.1 ρ h1 := rfl
theorem allBl_map {α : Type} (p : α → Bool) : ∀ F : List α, allBl (F.map fun y => PyData.bool (p y)) = some (F.map p)
  | [] => rfl
  | x :: xs => by simp [allBl, allBl_map p xs]
theorem allO_map {α : Type} (p : α → Bool) (F : List α) (h : AH) : allO [.d (.list (F.map fun y => PyData.bool (p y)))] h = some (.d (.bool (F.all p))) := by
  simp only [allO, toD, allBl_map, Option.map_some]
  rw [List.all_map]
  rfl
def goodIt (n : Nat) (y : PyData) : Bool := isNm n y || isPlain y
theorem ev_name_comp {h : AH} {t : Nat} {cs sl : List PyData} (r : TrAt h t cs sl) {x : PyData} (hz : sz x ≤ 1000000) : ∃ h', (eApp allO (aCons (eComp [2] (iSeq (eCall 1 f_parts_within (aCons (eVar 1) aNil))) (gN 2) tYesS (eOr (eMeth "Trust" "is_name" 2 f_Trust_is_name (eVar 0) (aCons (eVar 2) aNil)) (eCall 1 f_is_plain (aCons (eVar 2) aNil)))) aNil)) [some (.ref t), some (.d x), none] h = .ok (.d (.bool (pAll (goodIt cs.length) x))) h' ∧ Same [] h h' := by
  obtain ⟨f, h', F, e1, e2, e3, e4⟩ := ev_parts (h := h) hz
  have r' := r.same e4 (by simp)
  refine ⟨h', ?_, e4⟩
  have q := compL_map (chk := fun h => h.f f = some (.lst (F.map .d))) (g := gN 2) (me := eOr (eMeth "Trust" "is_name" 2 f_Trust_is_name (eVar 0) (aCons (eVar 2) aNil)) (eCall 1 f_is_plain (aCons (eVar 2) aNil))) (ρ := [some (.ref t), some (.d x), none]) (h := h') (fun w => match w with
    | .d y => .d (.bool (goodIt cs.length y))
    | _ => w) e2 (F.map .d) (by
      intro w hw
      obtain ⟨y, _, rfl⟩ := List.mem_map.mp hw
      refine ⟨_, rfl, ?_⟩
      cases e : isNm cs.length y <;> simp [r'.fo, ev_is_name r', e, goodIt])
  have m : ((F.map W.d).map fun w => match w with
    | .d y => W.d (.bool (goodIt cs.length y))
    | _ => w) = (F.map fun y => PyData.bool (goodIt cs.length y)).map W.d := by
    rw [List.map_map, List.map_map]
    rfl
  rw [m] at q
  simp [ev_comp, e1, e2, wipR, q, allO_map, e3, -List.map_map]
theorem ev_name_bad {h : AH} {t : Nat} {cs sl : List PyData} (r : TrAt h t cs sl) {x : PyData} (hz : sz x ≤ 1000000) (e : pAll (goodIt cs.length) x = false) : ∃ h', f_Trust_name [.ref t, .d x] h = .err "BadContent" [] h' ∧ Same [] h h' := by
  obtain ⟨h', e1, e2⟩ := ev_name_comp r hz
  rw [e] at e1
  refine ⟨h', ?_, e2⟩
  simp only [f_Trust_name, b_Trust_name, mkFn_def, List.map, List.length, List.replicate, List.append, ev_sSeq, ev_sIf, ev_tNot, ev_tOf, List.cons_append, List.nil_append, Nat.reduceSub, Nat.reduceAdd]
  rw [e1]
  rfl
theorem ev_name {h : AH} {t : Nat} {cs sl : List PyData} (r : TrAt h t cs sl) {x : PyData} (hz : sz x ≤ 1000000) (e : pAll (goodIt cs.length) x = true) (kx : ck 6 x = true) (hl : cs.length < 1000000) : ∃ h' cs' j, f_Trust_name [.ref t, .d x] h = .ok (.d (nm j)) h' ∧ TrAt h' t cs' sl ∧ Same [t + 1, t + 2] h h' ∧ cs' = (if x ∈ cs then cs else cs ++ [x]) ∧ idxD x cs' 0 = some j := by
  obtain ⟨h', e1, e2⟩ := ev_name_comp r hz
  rw [e] at e1
  have r' := r.same e2 (by simp)
  have ok := ck_keyOk kx (by omega)
  have look := lookD_nms kx 0 cs r.kc
  have non := idxD_none kx 0 cs r.kc
  have nin : notInO (.d x) (.ref (t + 2)) h' = some (.d (.bool (!(idxD x cs 0).isSome))) := by
    simp only [notInO, inB, toD, r'.fm, ok, if_true, look, Option.map_some, bO, Option.isSome_map]
  by_cases m : x ∈ cs
  · cases q : idxD x cs 0 with
    | none => exact absurd m (non.mp q)
    | some j =>
      refine ⟨h', cs, j, ?_, r', e2.mono (by simp), by rw [if_pos m], q⟩
      have ix : ixO (.ref (t + 2)) (.d x) h' = some (.d (nm j)) := by
        simp only [ixO, r'.fm, ok, if_true, look, q, Option.map_some]
      simp only [f_Trust_name, b_Trust_name, mkFn_def, List.map, List.length, List.replicate, List.append, ev_sSeq, ev_sIf, ev_tNot, ev_tOf, List.cons_append, List.nil_append, Nat.reduceSub, Nat.reduceAdd]
      rw [e1]
      simp [r'.fo, lookS, nin, q, ix]
  · have q := non.mpr m
    have put : putD x (.d (nm cs.length)) (nmsFrom 0 cs) = nmsFrom 0 (cs ++ [x]) := by
      rw [putD_fresh (by rw [look, q]; rfl), nmsFrom_app]
      simp [nmsFrom]
    have ap : ((h'.set (t + 2) (.dct (nmsFrom 0 (cs ++ [x])))).set (t + 1) (.lst ((cs ++ [x]).map .d))).f (t + 2) = some (.dct (nmsFrom 0 (cs ++ [x]))) := by simp
    have kc' : ∀ y ∈ cs ++ [x], ck 6 y = true := by
      intro y hy
      rcases List.mem_append.mp hy with z | z
      · exact r.kc y z
      · rw [List.mem_singleton.mp z]
        exact kx
    have q' := idxD_app_new kx 0 cs r.kc m
    rw [Nat.zero_add] at q'
    have ix : ixO (.ref (t + 2)) (.d x) ((h'.set (t + 2) (.dct (nmsFrom 0 (cs ++ [x])))).set (t + 1) (.lst ((cs ++ [x]).map .d))) = some (.d (nm cs.length)) := by
      simp only [ixO, ap, ok, if_true, lookD_nms kx 0 (cs ++ [x]) kc', q', Option.map_some]
    refine ⟨(h'.set (t + 2) (.dct (nmsFrom 0 (cs ++ [x])))).set (t + 1) (.lst ((cs ++ [x]).map .d)), cs ++ [x], cs.length, ?_, ⟨?_, ?_, ?_, ?_, r'.lt, kc', r.ks, ?_⟩, ?_, by rw [if_neg m], q'⟩
    · simp only [f_Trust_name, b_Trust_name, mkFn_def, List.map, List.length, List.replicate, List.append, ev_sSeq, ev_sIf, ev_tNot, ev_tOf, List.cons_append, List.nil_append, Nat.reduceSub, Nat.reduceAdd]
      rw [e1]
      have lc : lenO [.ref (t + 1)] h' = some (.d (.int cs.length)) := by simp [lenO, lenL, r'.fc]
      have nl : (nmsFrom 0 cs).length < 1000000 := by rw [nmsFrom_len]; exact hl
      simp only [List.map_append, List.map_cons, List.map_nil] at ix
      rw [nm] at put
      simp [r'.fo, lookS, nin, q, lc, putIn, r'.fm, ok, nl, put, lstAt, r'.fc, appendM, hl, ix]
    · simp [r'.fo]
    · simp
    · simp
    · simp [r'.fs]
    · rw [List.nodup_append]
      refine ⟨r.nd, by simp, fun a ha b hb => ?_⟩
      rw [List.mem_singleton.mp hb]
      intro z
      rw [z] at ha
      exact m ha
    · exact ((e2.mono (by simp)).set (by simp)).set (by simp)
end Q

set_option Elab.async false
set_option maxRecDepth 100000
set_option linter.all false
set_option autoImplicit false
/-! K15f: the tape. -/
namespace Q
open PySem PySem.Spec PyProof.Rows L2 LamX
open Classical
theorem keyS_iff (a b : Str) : keyD (.str a) = keyD (.str b) ↔ a = b := by simp [keyD]
theorem ofS_iff (a b : String) : Str.ofString a = Str.ofString b ↔ a = b := ⟨ofString_inj, fun h => by rw [h]⟩
theorem keyOk_str (s : Str) : keyOk (.str s) := ⟨.text s, rfl, by simp [NestedKey.depth]⟩
/-- a tape -/
def tp (q : Nat) (r : Int) (cells : List Int) (k : Int) : List (PyData × W) := [(.str (Str.ofString "large"), .ref q), (.str (Str.ofString "rest"), .d (.int r)), (.str (Str.ofString "cells"), .d (.list (cells.map .int))), (.str (Str.ofString "turn"), .d (.int k))]
@[simp] theorem tp_large (q : Nat) (r : Int) (cells : List Int) (k : Int) : lookD (.str (Str.ofString "large")) (tp q r cells k) = some (.ref q) := by simp [tp, lookD]
@[simp] theorem tp_rest (q : Nat) (r : Int) (cells : List Int) (k : Int) : lookD (.str (Str.ofString "rest")) (tp q r cells k) = some (.d (.int r)) := by simp [tp, lookD, keyS_iff, ofS_iff]
@[simp] theorem tp_cells (q : Nat) (r : Int) (cells : List Int) (k : Int) : lookD (.str (Str.ofString "cells")) (tp q r cells k) = some (.d (.list (cells.map .int))) := by simp [tp, lookD, keyS_iff, ofS_iff]
@[simp] theorem tp_turn (q : Nat) (r : Int) (cells : List Int) (k : Int) : lookD (.str (Str.ofString "turn")) (tp q r cells k) = some (.d (.int k)) := by simp [tp, lookD, keyS_iff, ofS_iff]
@[simp] theorem tp_put_rest (q : Nat) (r : Int) (cells : List Int) (k r' : Int) : putD (.str (Str.ofString "rest")) (.d (.int r')) (tp q r cells k) = tp q r' cells k := by simp [tp, putD, keyS_iff, ofS_iff]
@[simp] theorem tp_put_turn (q : Nat) (r : Int) (cells : List Int) (k k' : Int) : putD (.str (Str.ofString "turn")) (.d (.int k')) (tp q r cells k) = tp q r cells k' := by simp [tp, putD, keyS_iff, ofS_iff]
@[simp] theorem tp_len (q : Nat) (r : Int) (cells : List Int) (k : Int) : (tp q r cells k).length = 4 := rfl
structure TpAt (h : AH) (p q : Nat) (n : Nat) : Prop where
  ex : ∃ (r : Int) (cells L : List Int) (k : Int), h.f p = some (.dct (tp q r cells k)) ∧ h.f q = some (.lst ((L.map PyData.int).map .d)) ∧ 0 ≤ r ∧ (∀ z ∈ L, 0 ≤ z) ∧ (∀ z ∈ cells, 0 ≤ z) ∧ 0 ≤ k ∧ k ≤ (n : Int)
  ne : p ≠ q
  lt : p < h.n ∧ q < h.n
theorem TpAt.mono {h : AH} {p q n m : Nat} (r : TpAt h p q n) (l : n ≤ m) : TpAt h p q m := by
  obtain ⟨⟨r, cells, L, k, h1, h2, h3, h4, h5, h6, h7⟩, a, b⟩ := r
  exact ⟨⟨r, cells, L, k, h1, h2, h3, h4, h5, h6, by omega⟩, a, b⟩
theorem TpAt.same {h h' : AH} {p q n : Nat} {S : List Nat} (r : TpAt h p q n) (e : Same S h h') (d : p ∉ S ∧ q ∉ S) : TpAt h' p q n := by
  obtain ⟨⟨r, cells, L, k, h1, h2, h3⟩, a, b⟩ := r
  exact ⟨⟨r, cells, L, k, by rw [e.2 p b.1 d.1]; exact h1, by rw [e.2 q b.2 d.2]; exact h2, h3⟩, a, by have := e.1; omega⟩
theorem log_lt {x : Int} {m : Nat} (h : x.natAbs < 2 ^ m) (hm : 0 < m) : x.natAbs.log2 < m := by
  by_cases e : x.natAbs = 0
  · rw [e]
    simpa using hm
  · exact (Nat.log2_lt e).mpr h
theorem mul_ev {i j : Int} (a b : Nat) (hi : i.natAbs < 2 ^ a) (hj : j.natAbs < 2 ^ b) (ha : 0 < a) (hb : 0 < b) (l : a + b ≤ 1000) (h : AH) : mulO (.d (.int i)) (.d (.int j)) h = some (.d (.int (i * j))) := by
  have h1 := log_lt hi ha
  have h2 := log_lt hj hb
  have : i.natAbs.log2 + j.natAbs.log2 < 1000000 := by omega
  simp only [mulO, binI, decide_eq_true this, if_true]
theorem mod_ev {i j : Int} (h0 : 0 < j) (h : AH) : modO (.d (.int i)) (.d (.int j)) h = some (.d (.int (i % j))) := by
  simp only [modO, binI, decide_eq_true h0, if_true]
theorem fdiv_ev {i j : Int} (h0 : 0 < j) (hl : j.natAbs < 2 ^ 64) (h : AH) : fdivO (.d (.int i)) (.d (.int j)) h = some (.d (.int (i / j))) := by
  have := log_lt hl (by omega)
  have : 0 < j ∧ j.natAbs.log2 < 9000 := ⟨h0, by omega⟩
  simp only [fdivO, binI, decide_eq_true this, if_true]
theorem pow_ev {i j : Int} (h0 : 0 ≤ j) (hj : j ≤ 100) (hl : i.natAbs < 2 ^ 64) (h : AH) : powO (.d (.int i)) (.d (.int j)) h = some (.d (.int (i ^ j.toNat))) := by
  have : 0 ≤ j ∧ j ≤ 1000000 ∧ i.natAbs < 2 ^ 64 := ⟨h0, by omega, hl⟩
  simp only [powO, binI, decide_eq_true this, if_true]
/-- the inner loop of the blend -/
theorem blend_in (t fo gr : Int) (p : Nat) (h0 : 0 < gr) (h1 : gr < 2147483648) : ∀ (cells : List Int) (b : Int) (g : Option W) (h : AH), (∀ z ∈ cells, 0 ≤ z) → 0 ≤ b → b < gr → ∃ b' g', 0 ≤ b' ∧ b' < gr ∧ forL (fun _ => True) (gN 5) (sSet 4 (eOp modO (eOp addO (eOp mulO (eVar 4) (eC (.int 48271))) (eApp intO (aCons (eVar 5) aNil))) (eVar 3))) ((cells.map PyData.int).map .d) [some (.ref p), some (.d (.int t)), some (.d (.int fo)), some (.d (.int gr)), some (.d (.int b)), g] h = .nx [some (.ref p), some (.d (.int t)), some (.d (.int fo)), some (.d (.int gr)), some (.d (.int b')), g'] h
  | [], b, g, h, _, hb, hb' => ⟨b, g, hb, hb', by simp [forL]⟩
  | z :: cells, b, g, h, hc, hb, hb' => by
    have m := mul_ev (i := b) (j := 48271) 31 16 (by omega) (by decide) (by omega) (by omega) (by omega) h
    have d := mod_ev (i := b * 48271 + z) h0 h
    obtain ⟨b2, g2, q1, q2, q3⟩ := blend_in t fo gr p h0 h1 cells ((b * 48271 + z) % gr) (some (.d (.int z))) h (fun y hy => hc y (List.mem_cons_of_mem _ hy)) (Int.emod_nonneg _ (by omega)) (Int.emod_lt_of_pos _ h0)
    refine ⟨b2, g2, q1, q2, ?_⟩
    simp [forL, m, d]
    simpa using q3
@[simp] theorem for_list (chk : AH → Prop) (g : SemG) (b : SemS) (x : W) (xs : List W) (ρ : Env') (h : AH) : forL chk g b (x :: xs) ρ h = if chk h then (match g x ρ with
    | some ρ1 => match b ρ1 h with
      | .nx ρ' h' => forL chk g b xs ρ' h'
      | .ct ρ' h' => forL chk g b xs ρ' h'
      | .bk ρ' h' => .nx ρ' h'
      | .rt y h' => .rt y h'
      | .err c fs h' => .err c fs h'
      | .bad => .bad
    | none => .bad) else .bad := rfl
@[simp] theorem for_nil (chk : AH → Prop) (g : SemG) (b : SemS) (ρ : Env') (h : AH) : forL chk g b [] ρ h = if chk h then .nx ρ h else .bad := rfl
theorem ix_tp {h : AH} {p q : Nat} {r : Int} {cells : List Int} {k : Int} (hp : h.f p = some (.dct (tp q r cells k))) (s : Str) : ixO (.ref p) (.d (.str s)) h = lookD (.str s) (tp q r cells k) := by
  simp only [ixO, hp, keyOk_str, if_true]
/-- one lap of the blend -/
theorem blend_lap {h : AH} {p q : Nat} {r : Int} {cells : List Int} {k t : Int} (hp : h.f p = some (.dct (tp q r cells k))) (hc : ∀ z ∈ cells, 0 ≤ z) (t0 : 0 ≤ t) (t1 : t ≤ 2000000000) {gr : Int} (g0 : 0 < gr) (g1 : gr < 2147483648) {fo : Int} {a : Nat} (ha : 0 < a ∧ a ≤ 200) (f0 : 0 ≤ fo) (f1 : fo.natAbs < 2 ^ a) (bl gg : Option W) : ∃ fo' bl' gg', 0 ≤ fo' ∧ fo'.natAbs < 2 ^ (a + 32) ∧ (sSeq (sSet 4 (eOp modO (eOp addO (eOp mulO (eVar 1) (eC (.int 69621))) (eOp fdivO (eVar 3) (eC (.int 7)))) (eVar 3)))
    (sSeq (sFor (iSeq (eOp ixO (eVar 0) (eC (.str "cells")))) (gN 5) (sSet 4 (eOp modO (eOp addO (eOp mulO (eVar 4) (eC (.int 48271))) (eApp intO (aCons (eVar 5) aNil))) (eVar 3))))
    (sSet 2 (eOp addO (eOp mulO (eVar 2) (eC (.int 2147483647))) (eOp modO (eOp powO (eVar 4) (eC (.int 5))) (eVar 3)))))) [some (.ref p), some (.d (.int t)), some (.d (.int fo)), some (.d (.int gr)), bl, gg] h = .nx [some (.ref p), some (.d (.int t)), some (.d (.int fo')), some (.d (.int gr)), bl', gg'] h := by
  have m1 := mul_ev (i := t) (j := 69621) 31 17 (by omega) (by decide) (by omega) (by omega) (by omega) h
  have d1 := fdiv_ev (i := gr) (j := 7) (by omega) (by decide) h
  have d2 := mod_ev (i := t * 69621 + gr / 7) g0 h
  obtain ⟨b', g', q1, q2, q3⟩ := blend_in t fo gr p g0 g1 cells ((t * 69621 + gr / 7) % gr) gg h hc (Int.emod_nonneg _ (by omega)) (Int.emod_lt_of_pos _ g0)
  have m2 := mul_ev (i := fo) (j := 2147483647) a 31 f1 (by decide) ha.1 (by omega) (by omega) h
  have p1 := pow_ev (i := b') (j := 5) (by omega) (by omega) (by omega) h
  have d3 := mod_ev (i := b' ^ (Int.toNat 5)) g0 h
  have r0 := Int.emod_nonneg (b' ^ (Int.toNat 5)) (show gr ≠ 0 by omega)
  have r1 := Int.emod_lt_of_pos (b' ^ (Int.toNat 5)) g0
  refine ⟨fo * 2147483647 + b' ^ (Int.toNat 5) % gr, some (.d (.int b')), g', by omega, ?_, ?_⟩
  · rw [Nat.pow_add]
    generalize b' ^ (Int.toNat 5) % gr = z at *
    have hA : 0 < 2 ^ a := Nat.pow_pos (by omega)
    generalize 2 ^ a = A at *
    omega
  · have ix := ix_tp hp (Str.ofString "cells")
    rw [tp_cells] at ix
    simp only [ev_sSeq, ev_sSet, ev_op, ev_var, ev_c, List.getElem?_cons_zero, List.getElem?_cons_succ, out_ok, st_ok, m1, d1, ofOpt_some, add_ev, d2, ev_for, ev_seq, ix, List.set, q3, m2, p1, d3]
theorem ev_blend {h : AH} {p q n : Nat} (r : TpAt h p q n) (hn : n ≤ 1000000000) : ∃ v h', f__law_blend [.ref p] h = .ok (.d (.int v)) h' ∧ 0 ≤ v ∧ TpAt h' p q (n + 1) ∧ Same [p] h h' := by
  obtain ⟨⟨r, cells, L, k, h1, h2, h3, h4, h5, h6, h7⟩, a, b⟩ := r
  have hp : (h.set p (.dct (tp q r cells (k + 1)))).f p = some (.dct (tp q r cells (k + 1))) := by simp
  have lap := fun {gr : Int} (g0 : 0 < gr) (g1 : gr < 2147483648) {fo : Int} {a : Nat} (ha : 0 < a ∧ a ≤ 200) (f0 : 0 ≤ fo) (f1 : fo.natAbs < 2 ^ a) (bl gg : Option W) => blend_lap hp h5 (t := k + 1) (by omega) (by omega) g0 g1 ha f0 f1 bl gg
  obtain ⟨f1, b1, g1, x0, x1, e1⟩ := lap (gr := 2147483629) (by omega) (by omega) (fo := 0) (a := 1) (by omega) (by omega) (by decide) none none
  obtain ⟨f2, b2, g2, y0, y1, e2⟩ := lap (gr := 2147483587) (by omega) (by omega) (by omega) x0 x1 b1 g1
  obtain ⟨f3, b3, g3, z0, z1, e3⟩ := lap (gr := 2147483579) (by omega) (by omega) (by omega) y0 y1 b2 g2
  refine ⟨f3, h.set p (.dct (tp q r cells (k + 1))), ?_, z0, ⟨⟨r, cells, L, k + 1, by simp, by simp [Ne.symm a, h2], h3, h4, h5, by omega, by omega⟩, a, b⟩, (Same.refl _ h).set (by simp)⟩
  have ix := ix_tp h1 (Str.ofString "turn")
  rw [tp_turn] at ix
  have ix2 := ix_tp hp (Str.ofString "turn")
  rw [tp_turn] at ix2
  have st : ∀ (bo : SemS), sFor (iSeq (eLstD (aCons (eC (.int 2147483629)) (aCons (eC (.int 2147483587)) (aCons (eC (.int 2147483579)) aNil))))) (gN 3) bo [some (.ref p), some (.d (.int (k + 1))), some (.d (.int 0)), none, none, none] (h.set p (.dct (tp q r cells (k + 1)))) = forL (fun _ => True) (gN 3) bo [.d (.int 2147483629), .d (.int 2147483587), .d (.int 2147483579)] [some (.ref p), some (.d (.int (k + 1))), some (.d (.int 0)), none, none, none] (h.set p (.dct (tp q r cells (k + 1)))) := fun bo => by simp [ev_for, -for_list]
  unfold f__law_blend b__law_blend
  simp [ix, ix2, putIn, h1, keyOk_str]
  rw [st]
  simp [-ev_sSeq, e1, e2, e3]
end Q

set_option Elab.async false
set_option maxRecDepth 100000
set_option linter.all false
set_option autoImplicit false
/-! K15g: draws and picks; the tape begun. -/
namespace Q
open PySem PySem.Spec PyProof.Rows L2 LamX
open Classical
/-- how a def's body ends -/
def fnEnd (o : OutS) : Out W := match o with
  | .nx _ h' => .ok (.d .none) h'
  | .rt x h' => .ok x h'
  | .err c fs h' => .err c fs h'
  | _ => .bad
theorem mkFn_end (n : Nat) (b : SemS) (ws : List W) (h : AH) : mkFn n b ws h = fnEnd (b (ws.map some ++ List.replicate (n - ws.length) none) h) := rfl
@[simp] theorem fnEnd_rt (x : W) (h : AH) : fnEnd (.rt x h) = .ok x h := rfl
@[simp] theorem fnEnd_nx (x : Env') (h : AH) : fnEnd (.nx x h) = .ok (.d .none) h := rfl
@[simp] theorem fnEnd_err (c : String) (fs : List (String × PyData)) (h : AH) : fnEnd (.err c fs h) = .err c fs h := rfl
theorem ev_draw {h : AH} {p q n : Nat} (r : TpAt h p q n) (hn : n ≤ 1000000000) {size : Int} (s0 : 0 < size) (s1 : size.natAbs < 2 ^ 64) : ∃ v h', f__law_draw [.ref p, .d (.int size)] h = .ok (.d (.int v)) h' ∧ 0 ≤ v ∧ v < size ∧ TpAt h' p q (n + 1) ∧ Same [p, q] h h' := by
  obtain ⟨⟨r, cells, L, k, h1, h2, h3, h4, h5, h6, h7⟩, a, b⟩ := id r
  have ix := ix_tp h1 (Str.ofString "rest")
  rw [tp_rest] at ix
  have iq := ix_tp h1 (Str.ofString "large")
  rw [tp_large] at iq
  -- the second half, from any rest
  have fin : ∀ (h' : AH) (r' : Int) (cells L' : List Int) (k' : Int), (∀ z ∈ cells, 0 ≤ z) → h'.f p = some (.dct (tp q r' cells k')) → h'.f q = some (.lst ((L'.map PyData.int).map .d)) → 0 ≤ r' → (∀ z ∈ L', 0 ≤ z) → 0 ≤ k' → k' ≤ ((n + 1 : Nat) : Int) → Same [p, q] h h' → ∃ v h2, fnEnd ((sSeq (sSet 2 (eOp modO (eApp intO (aCons (eOp ixO (eVar 0) (eC (.str "rest"))) aNil)) (eVar 1)))
    (sSeq (sPut (eVar 0) (eC (.str "rest")) (eOp fdivO (eApp intO (aCons (eOp ixO (eVar 0) (eC (.str "rest"))) aNil)) (eVar 1)))
    (sRet (eVar 2)))) [some (.ref p), some (.d (.int size)), none] h') = Out.ok (.d (.int v)) h2 ∧ 0 ≤ v ∧ v < size ∧ TpAt h2 p q (n + 1) ∧ Same [p, q] h h2 := by
    intro h' r' cells L' k' h5 g1 g2 g3 g4 g5 g6 g7
    have ix' := ix_tp g1 (Str.ofString "rest")
    rw [tp_rest] at ix'
    have d1 := mod_ev (i := r') s0 h'
    have d2 := fdiv_ev (i := r') s0 s1 h'
    refine ⟨r' % size, h'.set p (.dct (tp q (r' / size) cells k')), ?_, Int.emod_nonneg _ (by omega), Int.emod_lt_of_pos _ s0, ⟨⟨r' / size, cells, L', k', by simp, by simp [Ne.symm a, g2], Int.ediv_nonneg g3 (by omega), g4, h5, g5, g6⟩, a, ?_⟩, g7.set (by simp)⟩
    · simp [ix', d1, d2, putIn, g1, keyOk_str]
    · have := g7.1
      simp only [set_n]
      omega
  unfold f__law_draw b__law_draw
  by_cases e : r = 0
  · subst e
    cases L with
    | nil =>
      have ne := neNil h2
      simp only [List.isEmpty_nil, List.map_nil, Bool.not_true] at ne
      obtain ⟨v, h', e1, v0, r', sm⟩ := ev_blend ⟨⟨0, cells, [], k, h1, h2, h3, h4, h5, h6, h7⟩, a, b⟩ hn
      obtain ⟨⟨r2, cells2, L2, k2, g1, g2, g3, g4, g5, g6, g7⟩, _, b2⟩ := r'
      obtain ⟨v', h3, w1, w2⟩ := fin (h'.set p (.dct (tp q v cells2 k2))) v cells2 L2 k2 g5 (by simp) (by simp [Ne.symm a, g2]) v0 g4 g6 g7 ((sm.mono (by simp)).set (by simp))
      refine ⟨v', h3, ?_, w2⟩
      rw [← w1]
      simp only [mkFn_end, List.map, List.length, List.replicate, List.cons_append, List.nil_append, Nat.reduceSub, Nat.reduceAdd]
      rw [ev_sSeq]
      simp [ix, iq, ne, e1, putIn, g1, keyOk_str, -ev_sSeq]
    | cons z L =>
      have ne := neNil h2
      simp only [List.map_cons, List.isEmpty_cons, Bool.not_false] at ne
      obtain ⟨v', h3, w1, w2⟩ := fin ((h.set q (.lst ((L.map PyData.int).map .d))).set p (.dct (tp q z cells k))) z cells L k h5 (by simp) (by simp [Ne.symm a]) (h4 z (List.mem_cons_self ..)) (fun y hy => h4 y (List.mem_cons_of_mem _ hy)) h6 (by omega) (((Same.refl _ h).set (by simp)).set (by simp))
      refine ⟨v', h3, ?_, w2⟩
      rw [← w1]
      simp only [mkFn_end, List.map, List.length, List.replicate, List.cons_append, List.nil_append, Nat.reduceSub, Nat.reduceAdd]
      rw [ev_sSeq]
      simp [ix, iq, ne, putIn, h1, a, keyOk_str, lstAt, h2, popAtM, -ev_sSeq, -List.map_map]
  · obtain ⟨v', h3, w1, w2⟩ := fin h r cells L k h5 h1 h2 h3 h4 h6 (by omega) (Same.refl _ h)
    refine ⟨v', h3, ?_, w2⟩
    rw [← w1]
    simp only [mkFn_end, List.map, List.length, List.replicate, List.cons_append, List.nil_append, Nat.reduceSub, Nat.reduceAdd]
    rw [ev_sSeq]
    simp [ix, e, -ev_sSeq]
end Q

set_option Elab.async false
set_option maxRecDepth 100000
set_option linter.all false
set_option autoImplicit false
/-! K15h: picks; the tape begun. -/
namespace Q
open PySem PySem.Spec PyProof.Rows L2 LamX
open Classical
theorem at_some {α : Type} {ds : List α} {v : Int} (h0 : 0 ≤ v) (h1 : v < ds.length) : ∃ x, atI ds v = some x ∧ x ∈ ds := by
  have hb : v.toNat < ds.length := by omega
  refine ⟨ds[v.toNat], ?_, List.getElem_mem hb⟩
  simp only [atI, ixN]
  rw [if_pos h0, if_pos h1]
  simp [hb]
theorem ev_pick {h : AH} {p q n : Nat} (r : TpAt h p q n) (hn : n ≤ 1000000000) {ds : List PyData} (s0 : 0 < ds.length) (s1 : ds.length ≤ 1000000) : ∃ x h', f__law_pick [.ref p, .d (.list ds)] h = .ok (.d x) h' ∧ x ∈ ds ∧ TpAt h' p q (n + 1) ∧ Same [p, q] h h' := by
  obtain ⟨v, h', e1, v0, v1, r', sm⟩ := ev_draw r hn (size := (ds.length : Int)) (by omega) (by omega)
  obtain ⟨x, e2, m⟩ := at_some v0 v1
  exact ⟨x, h', by simp [f__law_pick, b__law_pick, e1, e2], m, r', sm⟩
theorem ev_pickH {h : AH} {p q n l : Nat} (r : TpAt h p q n) (hn : n ≤ 1000000000) {ds : List PyData} (hl : h.f l = some (.lst (ds.map .d))) (ll : l < h.n) (d : l ≠ p ∧ l ≠ q) (s0 : 0 < ds.length) (s1 : ds.length ≤ 1000000) : ∃ x h', f__law_pick [.ref p, .ref l] h = .ok (.d x) h' ∧ x ∈ ds ∧ TpAt h' p q (n + 1) ∧ Same [p, q] h h' := by
  obtain ⟨v, h', e1, v0, v1, r', sm⟩ := ev_draw r hn (size := (ds.length : Int)) (by omega) (by omega)
  obtain ⟨x, e2, m⟩ := at_some v0 v1
  have hl' := sm.2 l ll (by simp [d])
  rw [hl] at hl'
  have ix : ixO (.ref l) (.d (.int v)) h' = some (.d x) := by
    simp only [ixO, hl', atI_map, e2, Option.map_some]
  exact ⟨x, h', by simp [f__law_pick, b__law_pick, lenO, lenL, hl, e1, ix], m, r', sm⟩
theorem ints_seq {h : AH} {x : W} {ns : List Int} (hi : IsInts h x ns) : ∃ chk : AH → Prop, (∀ ρ, iSeq (eVar 0) (some x :: ρ) h = .ok ((ns.map PyData.int).map .d, chk) h) ∧ ∀ h', Same [] h h' → chk h' := by
  rcases hi with rfl | ⟨i, rfl, hi, hf⟩
  · exact ⟨fun _ => True, fun ρ => by simp, fun _ _ => trivial⟩
  · refine ⟨fun h => h.f i = some (.lst ((ns.map PyData.int).map .d)), fun ρ => ?_, fun h' e => ?_⟩
    · have : (ns.map fun n => W.d (.int n)) = (ns.map PyData.int).map W.d := by rw [List.map_map]; rfl
      rw [this] at hf
      simp [hf, -List.map_map]
    · show h'.f i = _
      rw [e.2 i hi (by simp), hf, List.map_map]
      rfl
theorem IsInts.same {h h' : AH} {x : W} {ns : List Int} (hi : IsInts h x ns) (e : Same [] h h') : IsInts h' x ns := by
  rcases hi with rfl | ⟨i, rfl, hi, hf⟩
  · exact .inl rfl
  · exact .inr ⟨i, rfl, Nat.lt_of_lt_of_le hi e.1, by rw [e.2 i hi (by simp)]; exact hf⟩
theorem abs_ge (i : Int) : 0 ≤ (if i < 0 then -i else i) := by split <;> omega
theorem tp_eq (q : Nat) (ns : List Int) : (([Str.ofString "large", Str.ofString "rest", Str.ofString "cells", Str.ofString "turn"].zip [W.ref q, .d (.int 0), .d (.list (ns.map .int)), .d (.int 0)]).map fun p => (PyData.str p.1, p.2)) = tp q 0 ns 0 := rfl
theorem compO_of {own : List Nat} {mi : SemI} {g : SemG} {mt : SemT} {me : SemE} {ρ : Env'} {h h1 h2 : AH} {ws ys : List W} {chk : AH → Prop} (e1 : mi ρ h = .ok (ws, chk) h1) (e2 : compL chk g mt me (wipR ρ own) ws h1 = .ok ys h2) : compO own mi g mt me ρ h = .ok ys h2 := by
  simp only [compO, e1, out_ok, e2]
theorem flat_ints (ns : List Int) : ((ns.map PyData.int).map W.d).all W.flat = true := by
  simp [List.all_eq_true]
theorem ev_begun {h : AH} {x : W} {ns : List Int} (hi : IsInts h x ns) (hf : x.flat = true) : ∃ p q h', f__law_begun [x] h = .ok (.ref p) h' ∧ TpAt h' p q 0 ∧ Same [] h h' ∧ h.n ≤ p ∧ h.n ≤ q := by
  obtain ⟨chk, e1, c1⟩ := ints_seq hi
  have pw : powO (.d (.int 10)) (.d (.int 18)) h = some (.d (.int 1000000000000000000)) := pow_ev (by omega) (by omega) (by decide) h
  have f1 := compL_filter (g := gN 2) (mt := tOf (eOp geO (eApp absO (aCons (eVar 2) aNil)) (eOp powO (eC (.int 10)) (eC (.int 18))))) (me := eOp subO (eApp absO (aCons (eVar 2) aNil)) (eOp powO (eC (.int 10)) (eC (.int 18)))) (ρ := [some x, none, none]) (fun w => match w with
    | .d (.int i) => decide ((1000000000000000000 : Int) ≤ (if i < 0 then -i else i))
    | _ => false) (fun w => match w with
    | .d (.int i) => .d (.int ((if i < 0 then -i else i) - 1000000000000000000))
    | _ => w) (c1 h (Same.refl _ h)) ((ns.map PyData.int).map .d) (by
      intro w hw
      rw [List.map_map] at hw
      obtain ⟨i, _, rfl⟩ := List.mem_map.mp hw
      exact ⟨_, rfl, by simp [pw], fun _ => by simp [pw]⟩)
  let L : List Int := (ns.filter fun i => decide ((1000000000000000000 : Int) ≤ (if i < 0 then -i else i))).map fun i => (if i < 0 then -i else i) - 1000000000000000000
  have f2 : ((((ns.map PyData.int).map W.d).filter fun w => match w with
    | .d (.int i) => decide ((1000000000000000000 : Int) ≤ (if i < 0 then -i else i))
    | _ => false).map fun w => match w with
    | .d (.int i) => .d (.int ((if i < 0 then -i else i) - 1000000000000000000))
    | _ => w) = (L.map PyData.int).map W.d := by
    show _ = ((List.map _ (List.filter _ ns)).map PyData.int).map W.d
    rw [List.map_map, List.filter_map, List.map_map, List.map_map, List.map_map]
    rfl
  rw [f2] at f1
  have n1 : Same [] h (h.new (.lst ((L.map PyData.int).map .d))) := (Same.refl _ h).new
  obtain ⟨chk2, e2, c2⟩ := ints_seq (hi.same n1)
  let A : List Int := ns.map fun i => if i < 0 then -i else i
  have f3 := compL_map (g := gN 2) (me := eApp absO (aCons (eVar 2) aNil)) (ρ := [some x, some (.ref h.n), none]) (h := h.new (.lst ((L.map PyData.int).map .d))) (fun w => match w with
    | .d (.int i) => .d (.int (if i < 0 then -i else i))
    | _ => w) (c2 _ (Same.refl _ _)) ((ns.map PyData.int).map .d) (by
      intro w hw
      rw [List.map_map] at hw
      obtain ⟨i, _, rfl⟩ := List.mem_map.mp hw
      exact ⟨_, rfl, by simp⟩)
  have f4 : (((ns.map PyData.int).map W.d).map fun w => match w with
    | .d (.int i) => .d (.int (if i < 0 then -i else i))
    | _ => w) = (A.map PyData.int).map W.d := by
    show _ = ((List.map _ ns).map PyData.int).map W.d
    rw [List.map_map, List.map_map, List.map_map, List.map_map]
    rfl
  rw [f4] at f3
  refine ⟨h.n + 1, h.n, (h.new (.lst ((L.map PyData.int).map .d))).new (.dct (tp h.n 0 A 0)), ?_, ⟨⟨0, A, L, 0, by simp, by simp, by omega, ?_, ?_, by omega, by omega⟩, by omega, by simp; omega⟩, n1.new, by omega, by omega⟩
  · have k1 := compO_of (own := [2]) (g := gN 2) (e1 [none, none]) (show compL chk (gN 2) (tOf (eOp geO (eApp absO (aCons (eVar 2) aNil)) (eOp powO (eC (.int 10)) (eC (.int 18))))) (eOp subO (eApp absO (aCons (eVar 2) aNil)) (eOp powO (eC (.int 10)) (eC (.int 18)))) (wipR [some x, none, none] [2]) _ h = _ from f1)
    have k2 : sSetLcH 1 [2] (iSeq (eVar 0)) (gN 2) (tOf (eOp geO (eApp absO (aCons (eVar 2) aNil)) (eOp powO (eC (.int 10)) (eC (.int 18))))) (eOp subO (eApp absO (aCons (eVar 2) aNil)) (eOp powO (eC (.int 10)) (eC (.int 18)))) [some x, none, none] h = .nx [some x, some (.ref h.n), none] (h.new (.lst ((L.map PyData.int).map .d))) := by
      simp only [sSetLcH, k1, st_ok, flat_ints, if_true, List.set]
    have k3 : eComp [2] (iSeq (eVar 0)) (gN 2) tYesS (eApp absO (aCons (eVar 2) aNil)) [some x, some (.ref h.n), none] (h.new (.lst ((L.map PyData.int).map .d))) = .ok (.d (.list (A.map .int))) (h.new (.lst ((L.map PyData.int).map .d))) := by
      rw [ev_comp, e2]
      simp only [out_ok, wipR, List.set, f3, ev_allD_map, Option.map_some, ofOpt_some]
    unfold f__law_begun b__law_begun
    rw [mkFn_end]
    simp only [List.map, List.length, List.replicate, List.cons_append, List.nil_append, Nat.reduceSub, Nat.reduceAdd]
    rw [ev_sSeq, k2]
    simp only [ev_sRet, ev_disp, ev_cons, ev_var, k3, ev_c, ev_nil, out_ok, List.getElem?_cons_zero, List.getElem?_cons_succ]
    rw [if_pos ⟨by simp, by simp⟩]
    rw [st_ok, fnEnd_rt, new_n, tp_eq]
  · intro z hz
    obtain ⟨i, hi, rfl⟩ := List.mem_map.mp hz
    have := (List.mem_filter.mp hi).2
    simp only [decide_eq_true_eq] at this
    omega
  · intro z hz
    obtain ⟨i, hi, rfl⟩ := List.mem_map.mp hz
    exact abs_ge i
end Q

set_option Elab.async false
set_option maxRecDepth 100000
set_option linter.all false
set_option autoImplicit false
/-! K15i: _law_is_content, _law_names_in. -/
namespace Q
open PySem PySem.Spec PyProof.Rows L2 LamX
open Classical
/-- tuples nested at most so deep, ints below 10**18 -/
def gb : Nat → PyData → Bool
  | _, .int i => decide (i.natAbs < 1000000000000000000)
  | n + 1, .tuple xs => xs.all (gb n)
  | 0, .tuple _ => false
  | _, _ => true
theorem gb_int (n : Nat) (i : Int) : gb n (.int i) = decide (i.natAbs < 1000000000000000000) := by cases n <;> rfl
theorem gb_tup (n : Nat) (xs : List PyData) : gb (n + 1) (.tuple xs) = xs.all (gb n) := rfl
def isNum2 (x : PyData) : Bool := match x with
  | .int i => decide (0 ≤ i) && decide (i ≤ 1000000000000000000)
  | _ => false
theorem ev_law_num (x : PyData) (h : AH) : f__law_is_number [.d x, .d (.int 0), .d (.int 1000000000000000000)] h = .ok (.d (.bool (isNum2 x))) h := by
  unfold f__law_is_number b__law_is_number
  cases x with
  | int i =>
    by_cases h1 : 0 ≤ i <;> simp [isNum2, h1]
  | _ => simp [isNum2]
def nameForm2 (x : PyData) : Bool := match x with
  | .tuple [.str s, b] => (s == Str.ofString "name") && isNum2 b
  | _ => false
theorem pow18 (h : AH) : powO (.d (.int 10)) (.d (.int 18)) h = some (.d (.int 1000000000000000000)) := pow_ev (by omega) (by omega) (by decide) h
/-- the test for a name, as the law has it -/
noncomputable abbrev lawNameT : SemT := tAndS (tOf (eOp eqO (eApp lenO (aCons (eVar 0) aNil)) (eC (.int 2)))) (tAndS (tOf (eUn (isiO (isiB CLS "str")) (eOp ixO (eVar 0) (eC (.int 0))))) (tAndS (tOf (eOp eqO (eOp ixO (eVar 0) (eC (.int 0))) (eC (.str "name")))) (tOf (eCall 3 f__law_is_number (aCons (eOp ixO (eVar 0) (eC (.int 1))) (aCons (eC (.int 0)) (aCons (eOp powO (eC (.int 10)) (eC (.int 18))) aNil)))))))
theorem ev_lawNameT (xs : List PyData) (ρ : Env') (h : AH) : lawNameT (some (.d (.tuple xs)) :: ρ) h = .ok (nameForm2 (.tuple xs)) h := by
  unfold lawNameT
  rcases xs with _ | ⟨a, _ | ⟨b, _ | ⟨c, ds⟩⟩⟩
  · simp [nameForm2]
  · simp [nameForm2]
  · cases a with
    | str s =>
      cases e : (s == Str.ofString "name") <;> simp [nameForm2, e, pow18, ev_law_num]
    | _ => simp [nameForm2]
  · have e : ¬ ((ds.length : Int) + 1 + 1 + 1 = 2) := by omega
    simp [nameForm2, e]
theorem isNum2_eq {i : Int} (g : i.natAbs < 1000000000000000000) : isNum2 (.int i) = isNum (.int i) 0 := by
  have h1 : i ≤ 1000000000000000000 := by omega
  have h2 : i < 1000000000000000000 := by omega
  show (decide (0 ≤ i) && decide (i ≤ 1000000000000000000)) = (decide (0 ≤ i) && decide (i < 1000000000000000000))
  rw [decide_eq_true h1, decide_eq_true h2]
theorem nameForm2_eq {m : Nat} {x : PyData} (g : gb m x = true) : nameForm2 x = nameForm x := by
  cases x with
  | tuple ds =>
    rcases ds with _ | ⟨a, _ | ⟨b, _ | ⟨c, ds⟩⟩⟩
    · rfl
    · simp [nameForm2, nameForm]
    · cases a with
      | str s =>
        cases m with
        | zero => cases g
        | succ m =>
          rw [gb_tup] at g
          simp only [List.all_cons, List.all_nil, Bool.and_true, Bool.and_eq_true] at g
          cases b with
          | int i =>
            have g2 := g.2
            rw [gb_int, decide_eq_true_eq] at g2
            simp only [nameForm2, nameForm, isNum2_eq g2]
          | _ => rfl
      | _ => simp [nameForm2, nameForm]
    · simp [nameForm2, nameForm]
  | _ => rfl
theorem eqNilD (ds : List PyData) (h : AH) : eqO (.d (.list ds)) (.d (.list [])) h = some (.d (.bool ds.isEmpty)) := by
  have e : eqB (.d (.list ds)) (.d (.list [])) h = some ds.isEmpty := by
    unfold eqB
    simp only [toD]
    cases ds with
    | nil => rfl
    | cons d ds =>
      split
      · simp [PyData.eqv, PyData.eqvAll]
      · simp [eqLen, lenL]
  simp [eqO, e, bO]
theorem neNilD (ds : List PyData) (h : AH) : neO (.d (.list ds)) (.d (.list [])) h = some (.d (.bool (!ds.isEmpty))) := by
  have e : eqB (.d (.list ds)) (.d (.list [])) h = some ds.isEmpty := by
    unfold eqB
    simp only [toD]
    cases ds with
    | nil => rfl
    | cons d ds =>
      split
      · simp [PyData.eqv, PyData.eqvAll]
      · simp [eqLen, lenL]
  simp [neO, e, bO]
theorem pAlls_all (p : PyData → Bool) : ∀ xs : List PyData, pAlls p xs = xs.all (pAll p)
  | [] => rfl
  | x :: xs => by simp [pAlls, pAlls_all p xs]
theorem filter_empty {α : Type} (p : α → Bool) (xs : List α) : (xs.filter fun x => !p x).isEmpty = xs.all p := by
  induction xs with
  | nil => rfl
  | cons x xs ih =>
    cases e : p x <;> simp [e]
    simpa using ih
theorem good_name {n : Nat} {x : PyData} (e : nameForm x = true) : ∃ i : Int, x = .tuple [.str (Str.ofString "name"), .int i] ∧ goodIt n x = decide (i < (n : Int)) := by
  unfold nameForm isNum at e
  split at e
  · rename_i s b
    split at e
    · rename_i i
      simp only [Bool.and_eq_true, beq_iff_eq, decide_eq_true_eq] at e
      obtain ⟨rfl, e1, e2⟩ := e
      refine ⟨i, rfl, ?_⟩
      simp only [goodIt, isNm, isPlain, Bool.or_false, beq_self_eq_true, decide_eq_true e1, decide_eq_true e2, Bool.true_and, Bool.and_self]
    · simp at e
  · cases e
theorem ev_is_content (n : Nat) : ∀ (m : Nat) (x : PyData) (k : Nat) (d : Int) (h : AH), gb m x = true → m < k → (m : Int) < d → fr__law_is_content k [.d x, .d (.int n), .d (.int d)] h = .ok (.d (.bool (pAll (goodIt n) x))) h
  | m, x, 0, d, h, g, hk, hd => by omega
  | m, .tuple xs, k + 1, d, h, g, hk, hd => by
    cases m with
    | zero => cases g
    | succ m =>
      have g' := g
      rw [gb_tup, List.all_eq_true] at g'
      have hd0 : ¬ d = 0 := by omega
      unfold fr__law_is_content
      rw [mkFn_end]
      unfold b__law_is_content
      simp only [List.map, List.length, List.replicate, List.cons_append, List.nil_append, Nat.reduceSub, Nat.reduceAdd]
      have nf := ev_lawNameT xs [some (.d (.int n)), some (.d (.int d)), none] h
      unfold lawNameT at nf
      rw [nameForm2_eq g] at nf
      rw [ev_sSeq, ev_sIf]
      simp [-ev_sSeq, -ev_sIf]
      rw [ev_sSeq, ev_sIf]
      simp [-ev_sSeq, -ev_sIf]
      rw [ev_sSeq, ev_sIf]
      simp [-ev_sSeq, -ev_sIf, hd0]
      rw [ev_sSeq, ev_sIf, nf]
      cases e : nameForm (.tuple xs) with
      | true =>
        obtain ⟨i, e1, e2⟩ := good_name (n := n) e
        rw [pAll, if_pos e, e2]
        cases e1
        simp
      | false =>
        have q := compL_filter (chk := fun _ => True) (g := gN 3) (mt := tNotS (tOf (eCall 3 (fr__law_is_content k) (aCons (eVar 3) (aCons (eVar 1) (aCons (eOp subO (eVar 2) (eC (.int 1))) aNil)))))) (me := eVar 3) (ρ := [some (.d (.tuple xs)), some (.d (.int n)), some (.d (.int d)), none]) (h := h) (fun w => match w with
          | .d y => !pAll (goodIt n) y
          | _ => false) (fun w => w) trivial (xs.map .d) (by
            intro w hw
            obtain ⟨y, hy, rfl⟩ := List.mem_map.mp hw
            have ih := ev_is_content n m y k (d - 1) h (g' y hy) (by omega) (by omega)
            exact ⟨_, rfl, by simp [ih], fun _ => by simp⟩)
        have f2 : (((xs.map W.d).filter fun w => match w with
          | .d y => !pAll (goodIt n) y
          | _ => false).map fun w => w) = (xs.filter fun y => !pAll (goodIt n) y).map W.d := by
          rw [List.filter_map]
          simp
          rfl
        rw [f2] at q
        rw [pAll, if_neg (by rw [e]; exact Bool.false_ne_true), pAlls_all]
        simp only [st_ok, Bool.false_eq_true, if_false, ev_sNil, ev_sRet, ev_op, ev_comp, ev_seq, ev_var, ev_lstD, ev_nil, out_ok, List.getElem?_cons_zero, wipR, List.set, q, ev_allD_map, Option.map_some, ofOpt_some, allD_nil, Option.bind_some, List.length_nil, Nat.zero_le, if_true, eqNilD, filter_empty, fnEnd_rt]
  | m, .none, k + 1, d, h, g, hk, hd => by simp [fr__law_is_content, b__law_is_content, pAll, goodIt, isPlain]
  | m, .str s, k + 1, d, h, g, hk, hd => by simp [fr__law_is_content, b__law_is_content, pAll, goodIt, isPlain]
  | m, .int i, k + 1, d, h, g, hk, hd => by
    rw [gb_int] at g
    simp [fr__law_is_content, b__law_is_content, pAll, goodIt, isPlain, isNm]
    simpa using g
  | m, .bool b, k + 1, d, h, g, hk, hd => by simp [fr__law_is_content, b__law_is_content, pAll, goodIt, isPlain, isNm]
  | m, .list xs, k + 1, d, h, g, hk, hd => by simp [fr__law_is_content, b__law_is_content, pAll, goodIt, isPlain, isNm]
  | m, .dict xs, k + 1, d, h, g, hk, hd => by simp [fr__law_is_content, b__law_is_content, pAll, goodIt, isPlain, isNm]
end Q

set_option Elab.async false
set_option maxRecDepth 100000
set_option linter.all false
set_option autoImplicit false
set_option maxHeartbeats 400000
/-! K15j: _law_names_in, _law_content. -/
namespace Q
open PySem PySem.Spec PyProof.Rows L2 LamX
open Classical
theorem addL_ev {a b : List Int} (l : a.length + b.length ≤ 1000000) (h : AH) : addO (.d (.list (a.map .int))) (.d (.list (b.map .int))) h = some (.d (.list ((a ++ b).map .int))) := by
  simp [addO, l]
theorem ev_names_in : ∀ (m : Nat) (x : PyData) (k : Nat) (d : Int) (h : AH), gb m x = true → m < k → (m : Int) < d → sz x ≤ 1000000 → ∃ ns : List Int, fr__law_names_in k [.d x, .d (.int d)] h = .ok (.d (.list (ns.map .int))) h ∧ ns.length ≤ sz x ∧ ∀ j : Nat, pAll (goodIt j) x = true → ∀ z ∈ ns, z < (j : Int)
  | m, x, 0, d, h, g, hk, hd, hz => by omega
  | m, .tuple xs, k + 1, d, h, g, hk, hd, hz => by
    cases m with
    | zero => cases g
    | succ m =>
      have g' := g
      rw [gb_tup, List.all_eq_true] at g'
      have hd0 : ¬ d = 0 := by omega
      unfold fr__law_names_in
      rw [mkFn_end]
      unfold b__law_names_in
      simp only [List.map, List.length, List.replicate, List.cons_append, List.nil_append, Nat.reduceSub, Nat.reduceAdd]
      have nf := ev_lawNameT xs [some (.d (.int d)), none, none] h
      unfold lawNameT at nf
      rw [nameForm2_eq g] at nf
      rw [ev_sSeq, ev_sIf]
      simp [-ev_sSeq, -ev_sIf, hd0]
      rw [ev_sSeq, ev_sIf, nf]
      cases e : nameForm (.tuple xs) with
      | true =>
        refine ⟨[(match xs with | [_, .int i] => i | _ => 0)], ?_, by rw [sz_tup]; exact Nat.le_add_left _ _, fun j hj z hz => ?_⟩
        · obtain ⟨i, e1, e2⟩ := good_name (n := 0) e
          cases e1
          simp
        · obtain ⟨i, e1, e2⟩ := good_name (n := j) e
          rw [pAll, if_pos e, e2, decide_eq_true_eq] at hj
          cases e1
          simp at hz
          omega
      | false =>
        -- the loop
        have loop : ∀ (ys : List PyData) (fo : List Int) (it : Option W), (∀ y ∈ ys, gb m y = true) → fo.length + szs ys ≤ 1000000 → ∃ (ns : List Int) (it' : Option W), forL (fun _ => True) (gN 3) (sSet 2 (eOp addO (eVar 2) (eCall 2 (fr__law_names_in k) (aCons (eVar 3) (aCons (eOp subO (eVar 1) (eC (.int 1))) aNil))))) (ys.map .d) [some (.d (.tuple xs)), some (.d (.int d)), some (.d (.list (fo.map .int))), it] h = .nx [some (.d (.tuple xs)), some (.d (.int d)), some (.d (.list (ns.map .int))), it'] h ∧ ns.length ≤ fo.length + szs ys ∧ ∀ j : Nat, pAlls (goodIt j) ys = true → (∀ z ∈ fo, z < (j : Int)) → ∀ z ∈ ns, z < (j : Int) := by
          intro ys
          induction ys with
          | nil => exact fun fo it _ _ => ⟨fo, it, by simp, by rw [szs_nil]; exact Nat.le_refl _, fun j _ h => h⟩
          | cons y ys ih =>
            intro fo it hg hl
            rw [szs_cons] at hl
            obtain ⟨ns, e1, l1, p1⟩ := ev_names_in m y k (d - 1) h (hg y (List.mem_cons_self ..)) (by omega) (by omega) (by omega)
            obtain ⟨ns2, it2, e2, l2, p2⟩ := ih (fo ++ ns) (some (.d y)) (fun z hz => hg z (List.mem_cons_of_mem _ hz)) (by rw [List.length_append]; omega)
            have ad := addL_ev (a := fo) (b := ns) (by omega) h
            refine ⟨ns2, it2, ?_, by rw [szs_cons]; rw [List.length_append] at l2; omega, fun j hj hf => ?_⟩
            · simp [e1, ad, -List.map_append]
              exact e2
            · simp only [pAlls, Bool.and_eq_true] at hj
              refine p2 j hj.2 fun z hz => ?_
              rcases List.mem_append.mp hz with q | q
              · exact hf z q
              · exact p1 j hj.1 z q
        rw [sz_tup] at hz
        obtain ⟨ns, it', e1, l1, p1⟩ := loop xs [] none g' (by rw [List.length_nil]; omega)
        refine ⟨ns, ?_, by rw [sz_tup]; rw [List.length_nil] at l1; omega, fun j hj => ?_⟩
        · simp only [List.map_nil] at e1
          simp [ev_for, e1]
        · rw [pAll, if_neg (by rw [e]; exact Bool.false_ne_true)] at hj
          exact p1 j hj (by simp)
  | m, .none, k + 1, d, h, g, hk, hd, hz => ⟨[], by simp [fr__law_names_in, b__law_names_in], by simp, by simp⟩
  | m, .str s, k + 1, d, h, g, hk, hd, hz => ⟨[], by simp [fr__law_names_in, b__law_names_in], by simp, by simp⟩
  | m, .int i, k + 1, d, h, g, hk, hd, hz => ⟨[], by simp [fr__law_names_in, b__law_names_in], by simp, by simp⟩
  | m, .bool b, k + 1, d, h, g, hk, hd, hz => ⟨[], by simp [fr__law_names_in, b__law_names_in], by simp, by simp⟩
  | m, .list xs, k + 1, d, h, g, hk, hd, hz => ⟨[], by simp [fr__law_names_in, b__law_names_in], by simp, by simp⟩
  | m, .dict xs, k + 1, d, h, g, hk, hd, hz => ⟨[], by simp [fr__law_names_in, b__law_names_in], by simp, by simp⟩
end Q

set_option Elab.async false
set_option maxRecDepth 100000
set_option linter.all false
set_option autoImplicit false
set_option maxHeartbeats 1000000
/-! K15k: _law_content. -/
namespace Q
open PySem PySem.Spec PyProof.Rows L2 LamX
open Classical
theorem compL_at {chk : AH → Prop} {g : SemG} {me : SemE} {ρ : Env'} (I : Nat → AH → Prop) (P : PyData → Prop) (hc : ∀ i h, I i h → chk h) : ∀ (ws : List W) (i : Nat) (h : AH), I i h → (∀ x ∈ ws, ∃ ρ1, g x ρ = some ρ1 ∧ ∀ j h, j < i + ws.length → I j h → ∃ y h', me ρ1 h = .ok (.d y) h' ∧ I (j + 1) h' ∧ P y) → ∃ (ys : List PyData) (h' : AH), compL chk g tYesS me ρ ws h = .ok (ys.map .d) h' ∧ I (i + ws.length) h' ∧ ys.length = ws.length ∧ ∀ y ∈ ys, P y
  | [], i, h, v, _ => ⟨[], h, by simp [compL, hc i h v], v, rfl, fun _ z => by simp at z⟩
  | x :: xs, i, h, v, k => by
    obtain ⟨ρ1, e1, e2⟩ := k x (List.mem_cons_self ..)
    obtain ⟨y, h1, e3, i1, py⟩ := e2 i h (by simp) v
    obtain ⟨ys, h2, e4, i2, l, q⟩ := compL_at I P hc xs (i + 1) h1 i1 fun y hy => by
      obtain ⟨ρ2, a, b⟩ := k y (List.mem_cons_of_mem _ hy)
      exact ⟨ρ2, a, fun j h hj => b j h (by simp only [List.length_cons]; omega)⟩
    refine ⟨y :: ys, h2, by simp [compL, hc i h v, e1, e3, e4], by rw [List.length_cons, show i + (xs.length + 1) = i + 1 + xs.length by omega]; exact i2, by simp [l], fun z hz => ?_⟩
    rcases List.mem_cons.mp hz with rfl | hz
    · exact py
    · exact q z hz
theorem ev_range {ma : SemE} {ρ : Env'} {h : AH} : iRange1 ma ρ h = (ma ρ h).bind fun x h1 => match x with
  | .d (.int j) => if -(2 ^ 62) ≤ j ∧ j ≤ 1000000 then (.ok (rngW 0 j.toNat, (fun _ => True : AH → Prop)) h1 : Out (List W × (AH → Prop))) else .bad
  | _ => .bad := rfl
theorem pow17 (h : AH) : powO (.d (.int 10)) (.d (.int 17)) h = some (.d (.int 100000000000000000)) := pow_ev (by omega) (by omega) (by decide) h
def E5 : Nat → Nat
  | 0 => 5
  | d + 1 => 5 * E5 d
theorem E5_pos : ∀ d, 5 ≤ E5 d
  | 0 => Nat.le_refl _
  | d + 1 => by have := E5_pos d; simp only [E5]; omega
theorem ck_word (n : Nat) : ck n (.str (Str.ofString "word")) = true := by rw [ck_str]; decide +kernel
theorem ck_pay (n : Nat) : ck n (.str (Str.ofString "pay")) = true := by rw [ck_str]; decide +kernel
theorem ck_x (n : Nat) : ck n (.str (Str.ofString "x")) = true := by rw [ck_str]; decide +kernel
theorem ck_empty (n : Nat) : ck n (.str (Str.ofString "")) = true := by rw [ck_str]; decide +kernel
theorem gb_str (n : Nat) (s : Str) : gb n (.str s) = true := by cases n <;> rfl
theorem gb_none (n : Nat) : gb n .none = true := by cases n <;> rfl
theorem sz_int (i : Int) : sz (.int i) = 1 := by rw [sz] <;> (intros; simp_all)
theorem sz_str (i : Str) : sz (.str i) = 1 := by rw [sz] <;> (intros; simp_all)
theorem sz_none : sz .none = 1 := by rw [sz] <;> (intros; simp_all)
/-- what a content of a law is -/
structure Cn (d : Nat) (x : PyData) : Prop where
  k : ck (d + 1) x = true
  g : gb (d + 1) x = true
  s : sz x ≤ E5 d
theorem cn_int (d : Nat) {i : Int} (h : i.natAbs < 1000000000000000000) : Cn d (.int i) := ⟨ck_int _ _, by rw [gb_int]; exact decide_eq_true h, by rw [sz_int]; have := E5_pos d; omega⟩
theorem cn_str (d : Nat) {s : Str} (h : ck 0 (.str s) = true) : Cn d (.str s) := ⟨by rw [ck_str] at h ⊢; exact h, gb_str _ _, by rw [sz_str]; have := E5_pos d; omega⟩
theorem cn_none (d : Nat) : Cn d .none := ⟨ck_none _, gb_none _, by rw [sz_none]; have := E5_pos d; omega⟩
theorem szs_le {n : Nat} : ∀ xs : List PyData, (∀ x ∈ xs, sz x ≤ n) → szs xs ≤ xs.length * n
  | [], _ => by rw [szs_nil]; exact Nat.zero_le _
  | x :: xs, h => by
    have := szs_le xs fun y hy => h y (List.mem_cons_of_mem _ hy)
    have := h x (List.mem_cons_self ..)
    rw [szs_cons, List.length_cons, Nat.succ_mul]
    omega
theorem ev_content_law (gv : Nat) (hg : gv ≤ 1000000) : ∀ (k d : Nat) {h : AH} {p q n : Nat}, TpAt h p q n → n + E5 d ≤ 1000000000 → d < k → ∃ x h', fr__law_content k [.ref p, .d (.int gv), .d (.int d)] h = .ok (.d x) h' ∧ Cn d x ∧ TpAt h' p q (n + E5 d) ∧ Same [p, q] h h'
  | 0, d, h, p, q, n, r, hn, hk => by omega
  | k + 1, d, h, p, q, n, r, hn, hk => by
    have e5 := E5_pos d
    let size : Int := if 0 < d then 6 else 4
    have hs : 0 < size ∧ size.natAbs < 2 ^ 64 := by
      show 0 < (if 0 < d then (6 : Int) else 4) ∧ (if 0 < d then (6 : Int) else 4).natAbs < 2 ^ 64
      split <;> exact ⟨by omega, by decide⟩
    obtain ⟨v, h1, e1, v0, v1, r1, s1⟩ := ev_draw r (by omega) hs.1 hs.2
    have way : (eCall 2 f__law_draw (aCons (eVar 0) (aCons (eIf (tOf (eOp gtO (eVar 2) (eC (.int 0)))) (eC (.int 6)) (eC (.int 4))) aNil))) [some (.ref p), some (.d (.int gv)), some (.d (.int d)), none, none, none] h = .ok (.d (.int v)) h1 := by
      by_cases hd : 0 < d
      · have sz : size = 6 := if_pos hd
        rw [sz] at e1
        simp [hd, e1]
      · have sz : size = 4 := if_neg hd
        rw [sz] at e1
        simp [hd, e1]
    unfold fr__law_content
    rw [mkFn_end]
    unfold b__law_content
    simp only [List.map, List.length, List.replicate, List.cons_append, List.nil_append, Nat.reduceSub, Nat.reduceAdd]
    rw [ev_sSeq, ev_sSet, way]
    simp only [st_ok, List.set]
    -- a pick
    have pk : ∀ (ds : List PyData), 0 < ds.length → ds.length ≤ 1000 → (∀ x ∈ ds, Cn d x) → ∃ x h', f__law_pick [.ref p, .d (.list ds)] h1 = .ok (.d x) h' ∧ Cn d x ∧ TpAt h' p q (n + E5 d) ∧ Same [p, q] h h' := fun ds l0 l1 hc => by
      obtain ⟨x, h', a, b, c, e⟩ := ev_pick r1 (by omega) l0 (by omega)
      exact ⟨x, h', a, hc x b, c.mono (by omega), s1.trans e⟩
    by_cases c0 : v = 0
    · obtain ⟨x, h', a, b⟩ := pk [.int 0, .int (-5), .int 7, .int 100000000000000000, .int 1, .int 2] (by simp) (by simp) (by
        intro x hx
        simp only [List.mem_cons, List.not_mem_nil, or_false] at hx
        rcases hx with rfl | rfl | rfl | rfl | rfl | rfl <;> exact cn_int d (by decide))
      exact ⟨x, h', by simp [c0, pow17, a], b⟩
    by_cases c1 : v = 1
    · obtain ⟨x, h', a, b⟩ := pk [.str (Str.ofString ""), .str (Str.ofString "word"), .str (Str.ofString "name"), .str (Str.ofString "pay"), .none] (by simp) (by simp) (by
        intro x hx
        simp only [List.mem_cons, List.not_mem_nil, or_false] at hx
        rcases hx with rfl | rfl | rfl | rfl | rfl
        · exact cn_str d (ck_empty 0)
        · exact cn_str d (ck_word 0)
        · exact cn_str d (ck_name 0)
        · exact cn_str d (ck_pay 0)
        · exact cn_none d)
      exact ⟨x, h', by simp [c1, a], b⟩
    by_cases c2 : v = 2 ∧ 0 < gv
    · obtain ⟨i, h', a, i0, i1, b, c⟩ := ev_draw r1 (by omega) (size := (gv : Int)) (by omega) (by omega)
      refine ⟨.tuple [.str (Str.ofString "name"), .int i], h', by simp [c2.1, c2.2, a], ⟨?_, ?_, ?_⟩, b.mono (by omega), s1.trans c⟩
      · rw [ck_tup]
        simp [ck_name, ck_int]
      · rw [gb_tup]
        simp [gb_str, gb_int]
        omega
      · rw [sz_tup, szs_cons, szs_cons, szs_nil, sz_str, sz_int]
        omega
    by_cases c3 : v < 4
    · obtain ⟨x, h', a, b⟩ := pk [.none, .str (Str.ofString "x"), .int 3] (by simp) (by simp) (by
        intro x hx
        simp only [List.mem_cons, List.not_mem_nil, or_false] at hx
        rcases hx with rfl | rfl | rfl
        · exact cn_none d
        · exact cn_str d (ck_x 0)
        · exact cn_int d (by decide))
      refine ⟨x, h', ?_, b⟩
      by_cases c4 : v = 2
      · have : gv = 0 := by omega
        simp [c4, this, a]
      · simp [c0, c1, c4, c3, a]
    -- a tuple of contents
    have dpos : 0 < d := by
      refine Nat.pos_of_ne_zero fun z => c3 ?_
      have sz : size = 4 := if_neg (by omega)
      omega
    obtain ⟨d, rfl⟩ : ∃ e, d = e + 1 := ⟨d - 1, by omega⟩
    have e5d := E5_pos d
    have E5s : E5 (d + 1) = 5 * E5 d := rfl
    obtain ⟨j, h2, a, j0, j1, r2, s2⟩ := ev_draw r1 (by omega) (size := 4) (by omega) (by decide)
    have dm : ((d + 1 : Nat) : Int) - 1 = (d : Int) := by omega
    obtain ⟨ys, h3, f1, f2, f3, f4⟩ := compL_at (chk := fun _ => True) (g := gN 5) (me := eCall 3 (fr__law_content k) (aCons (eVar 0) (aCons (eVar 1) (aCons (eOp subO (eVar 2) (eC (.int 1))) aNil)))) (ρ := [some (.ref p), some (.d (.int gv)), some (.d (.int ((d + 1 : Nat) : Int))), some (.d (.int v)), none, none]) (fun i h' => TpAt h' p q (n + 2 + i * E5 d) ∧ Same [p, q] h h') (Cn d) (fun _ _ _ => trivial) (rngW 0 j.toNat) 0 h2 ⟨r2.mono (by omega), s1.trans s2⟩ (by
      intro w hw
      refine ⟨_, rfl, fun i h' hi ⟨t1, t2⟩ => ?_⟩
      have hl : (rngW 0 j.toNat).length = j.toNat := by simp [rngW]
      rw [hl] at hi
      have hi3 : i ≤ 2 := by omega
      have : i * E5 d ≤ 2 * E5 d := Nat.mul_le_mul_right _ hi3
      obtain ⟨y, h'', g1, g2, g3, g4⟩ := ev_content_law gv hg k d t1 (by omega) (by omega)
      refine ⟨y, h'', ?_, ⟨g3.mono (by rw [Nat.succ_mul]; omega), t2.trans g4⟩, g2⟩
      simp only [ev_call, ev_cons, ev_var, ev_op, ev_c, ev_nil, out_ok, List.getElem?_cons_zero, List.getElem?_cons_succ, List.set, sub_ev, ofOpt_some, dm, List.all_cons, List.all_nil, flat_d, flat_ref, Bool.and_self, List.length_cons, List.length_nil, and_self, if_true]
      exact g1)
    have hl : (rngW 0 j.toNat).length = j.toNat := by simp [rngW]
    rw [hl, Nat.zero_add] at f2
    rw [hl] at f3
    have ly : ys.length ≤ 3 := by omega
    have big : j.toNat * E5 d ≤ 3 * E5 d := Nat.mul_le_mul_right _ (by omega)
    have r3 := f2.1.mono (show n + 2 + j.toNat * E5 d ≤ n + E5 (d + 1) by omega)
    have it : sSetLc 4 [5] (iRange1 (eCall 2 f__law_draw (aCons (eVar 0) (aCons (eC (.int 4)) aNil)))) (gN 5) tYesS (eCall 3 (fr__law_content k) (aCons (eVar 0) (aCons (eVar 1) (aCons (eOp subO (eVar 2) (eC (.int 1))) aNil)))) [some (.ref p), some (.d (.int gv)), some (.d (.int ((d + 1 : Nat) : Int))), some (.d (.int v)), none, none] h1 = .nx [some (.ref p), some (.d (.int gv)), some (.d (.int ((d + 1 : Nat) : Int))), some (.d (.int v)), some (.d (.list ys)), none] h3 := by
      have jb : -(2 ^ 62) ≤ j ∧ j ≤ 1000000 := ⟨by omega, by omega⟩
      have k1 := compO_of (own := [5]) (mi := iRange1 (eCall 2 f__law_draw (aCons (eVar 0) (aCons (eC (.int 4)) aNil)))) (g := gN 5) (mt := tYesS) (me := eCall 3 (fr__law_content k) (aCons (eVar 0) (aCons (eVar 1) (aCons (eOp subO (eVar 2) (eC (.int 1))) aNil)))) (ρ := [some (.ref p), some (.d (.int gv)), some (.d (.int ((d + 1 : Nat) : Int))), some (.d (.int v)), none, none]) (h := h1) (h1 := h2) (ws := rngW 0 j.toNat) (chk := fun _ => True) (by
        simp only [ev_range, ev_call, ev_cons, ev_var, ev_c, ev_nil, out_ok, List.getElem?_cons_zero, List.getElem?_cons_succ, List.all_cons, List.all_nil, flat_d, flat_ref, Bool.and_self, List.length_cons, List.length_nil, and_self, if_true, a]
        rw [if_pos jb]) f1
      simp only [sSetLc, k1, st_ok, ev_allD_map, List.set]
    have c0' : ¬ v = 0 := c0
    have c1' : ¬ v = 1 := c1
    have c2' : ¬ v = 2 := by omega
    let pre : List PyData := if v = 5 ∧ ¬ ys.length = 1 then [.str (Str.ofString "name")] else []
    have pl : pre.length ≤ 1 := by
      show (if v = 5 ∧ ¬ ys.length = 1 then [PyData.str (Str.ofString "name")] else []).length ≤ 1
      split <;> simp
    have pc : ∀ x ∈ pre, x = .str (Str.ofString "name") := by
      show ∀ x ∈ (if v = 5 ∧ ¬ ys.length = 1 then [PyData.str (Str.ofString "name")] else []), _
      split <;> simp
    refine ⟨.tuple (pre ++ ys), h3, ?_, ⟨?_, ?_, ?_⟩, r3, f2.2⟩
    · have ad : addO (.d (.list pre)) (.d (.list ys)) h3 = some (.d (.list (pre ++ ys))) := by
        have : pre.length + ys.length ≤ 1000000 := by omega
        simp only [addO, toD, if_pos this]
      have ifp : (eIf (tAndS (tOf (eOp eqO (eVar 3) (eC (.int 5)))) (tOf (eOp neO (eApp lenO (aCons (eVar 4) aNil)) (eC (.int 1))))) (eLstD (aCons (eC (.str "name")) aNil)) (eLstD aNil)) [some (.ref p), some (.d (.int gv)), some (.d (.int ((d + 1 : Nat) : Int))), some (.d (.int v)), some (.d (.list ys)), none] h3 = .ok (.d (.list pre)) h3 := by
        by_cases u1 : v = 5
        · by_cases u2 : ys.length = 1
          · have : pre = [] := if_neg (by simp [u2])
            simp [u1, u2, this]
          · have : pre = [.str (Str.ofString "name")] := if_pos ⟨u1, u2⟩
            have u3 : ¬ ((ys.length : Int) = 1) := by omega
            simp [u1, u3, this]
        · have : pre = [] := if_neg (by simp [u1])
          simp [u1, this]
      have rest : ∀ (b : SemS) (o : OutS), b [some (.ref p), some (.d (.int gv)), some (.d (.int ((d + 1 : Nat) : Int))), some (.d (.int v)), none, none] h1 = o → ∀ (t : SemT) (c : SemS), t [some (.ref p), some (.d (.int gv)), some (.d (.int ((d + 1 : Nat) : Int))), some (.d (.int v)), none, none] h1 = .ok false h1 → sSeq (sIf t c sNil) b [some (.ref p), some (.d (.int gv)), some (.d (.int ((d + 1 : Nat) : Int))), some (.d (.int v)), none, none] h1 = o := by
        intro b o hb t c ht
        rw [ev_sSeq, ev_sIf, ht]
        exact hb
      rw [rest _ (.rt (.d (.tuple (pre ++ ys))) h3) (rest _ _ (rest _ _ (rest _ _ ?_ _ _ ?_) _ _ ?_) _ _ ?_) _ _ ?_]
      · rfl
      · rw [ev_sSeq, it]
        simp only [ev_sRet, ev_app, ev_cons, ev_op, ifp, out_ok, ev_var, List.getElem?_cons_zero, List.getElem?_cons_succ, ad, ofOpt_some, ev_nil, tupleO, toD, st_ok]
      · simp [c3]
      · simp [c2']
      · simp [c1']
      · simp [c0']
    · rw [ck_tup, List.all_eq_true]
      intro x hx
      rcases List.mem_append.mp hx with z | z
      · rw [pc x z]
        exact ck_name _
      · exact (f4 x z).k
    · rw [gb_tup, List.all_eq_true]
      intro x hx
      rcases List.mem_append.mp hx with z | z
      · rw [pc x z]
        exact gb_str _ _
      · exact (f4 x z).g
    · have q1 := szs_le (n := 1) pre fun x hx => by rw [pc x hx, sz_str]; exact Nat.le_refl _
      have q2 := szs_le (n := E5 d) ys fun x hx => (f4 x hx).s
      have q3 : ys.length * E5 d ≤ 3 * E5 d := Nat.mul_le_mul_right _ ly
      rw [sz_tup, szs_app]
      omega
end Q

set_option Elab.async false
set_option maxRecDepth 100000
set_option linter.all false
set_option autoImplicit false
set_option maxHeartbeats 1000000
/-! K15l: the parts of _law_named. -/
namespace Q
open PySem PySem.Spec PyProof.Rows L2 LamX
open Classical
mutual
theorem pAll_mono {p p' : PyData → Bool} (h : ∀ y, p y = true → p' y = true) : ∀ x : PyData, pAll p x = true → pAll p' x = true
  | .tuple xs, e => by
    rw [pAll] at e ⊢
    split at e
    · rename_i q
      rw [if_pos q]
      exact h _ e
    · rename_i q
      rw [if_neg q]
      exact pAlls_mono h xs e
  | .none, e => by rw [pAll] at e ⊢; exact h _ e
  | .bool _, e => by rw [pAll] at e ⊢; exact h _ e
  | .int _, e => by rw [pAll] at e ⊢; exact h _ e
  | .str _, e => by rw [pAll] at e ⊢; exact h _ e
  | .list _, e => by rw [pAll] at e ⊢; exact h _ e
  | .dict _, e => by rw [pAll] at e ⊢; exact h _ e
theorem pAlls_mono {p p' : PyData → Bool} (h : ∀ y, p y = true → p' y = true) : ∀ xs : List PyData, pAlls p xs = true → pAlls p' xs = true
  | [], _ => by rw [pAlls]
  | x :: xs, e => by
    rw [pAlls, Bool.and_eq_true] at e ⊢
    exact ⟨pAll_mono h x e.1, pAlls_mono h xs e.2⟩
end
theorem goodIt_mono {n m : Nat} (l : n ≤ m) (y : PyData) (e : goodIt n y = true) : goodIt m y = true := by
  unfold goodIt at e ⊢
  rw [Bool.or_eq_true] at e ⊢
  rcases e with e | e
  · left
    rw [isNm_iff, Bool.and_eq_true] at e ⊢
    refine ⟨e.1, ?_⟩
    have e2 := e.2
    split at e2
    · rw [decide_eq_true_eq] at e2 ⊢
      omega
    · cases e2
  · exact .inr e
theorem nf_nm {i : Nat} (h : (i : Int) < 1000000000000000000) : nameForm (nm i) = true := by
  have h0 : (0 : Int) ≤ (i : Int) := by omega
  show ((Str.ofString "name" == Str.ofString "name") && (decide ((0 : Int) ≤ (i : Int)) && decide ((i : Int) < 1000000000000000000))) = true
  rw [decide_eq_true h0, decide_eq_true h, beq_self_eq_true]
  rfl
theorem pAll_nm {n i : Nat} (h : (i : Int) < 1000000000000000000) : pAll (goodIt n) (nm i) = decide (i < n) := by
  have e := nf_nm h
  obtain ⟨j, e1, e2⟩ := good_name (n := n) e
  have : (i : Int) = j := by
    simp only [nm, PyData.tuple.injEq, List.cons.injEq, PyData.int.injEq, and_true, true_and] at e1
    exact e1
  show pAll (goodIt n) (.tuple _) = _
  rw [pAll, if_pos (show nameForm (.tuple _) = true from e)]
  rw [show PyData.tuple [PyData.str (Str.ofString "name"), PyData.int ↑i] = nm i from rfl, e2, ← this]
  exact decide_eq_decide.mpr (by omega)
/-- the contents that are none, when n are named -/
def bads (n : Nat) : List PyData := [.bool true, .list [.int 1], .dict [], nm n, .tuple [.int 1, nm 1000000000], .tuple [.tuple [.bool true]], .tuple [.str (Str.ofString "x"), .list [.int 1]], .tuple [.none, .tuple [.str (Str.ofString "y"), nm (n + 1)]], .tuple [.bool false, .int 1]]
theorem gb_nm (k n : Nat) (h : n < 1000000000000000000) : gb (k + 1) (nm n) = true := by
  rw [nm, gb_tup]
  simp only [List.all_cons, List.all_nil, gb_str, gb_int, Bool.and_true, Bool.true_and]
  exact decide_eq_true (by omega)
theorem sz_nm (n : Nat) : sz (nm n) = 3 := by rw [nm, sz_tup, szs_cons, szs_cons, szs_nil, sz_str, sz_int]
theorem sz_bool (b : Bool) : sz (.bool b) = 1 := by rw [sz] <;> (intros; simp_all)
theorem sz_list (b : List PyData) : sz (.list b) = 1 := by rw [sz] <;> (intros; simp_all)
theorem sz_dict (b : List (PyData × PyData)) : sz (.dict b) = 1 := by rw [sz] <;> (intros; simp_all)
theorem gb_bool (n : Nat) (b : Bool) : gb n (.bool b) = true := by cases n <;> rfl
theorem gb_list (n : Nat) (b : List PyData) : gb n (.list b) = true := by cases n <;> rfl
theorem gb_dict (n : Nat) (b : List (PyData × PyData)) : gb n (.dict b) = true := by cases n <;> rfl
theorem bads_ok {n : Nat} (hn : n ≤ 1000) : ∀ b ∈ bads n, pAll (goodIt n) b = false ∧ gb 4 b = true ∧ sz b ≤ 1000000 := by
  intro b hb
  have n1 : pAll (goodIt n) (nm n) = false := by rw [pAll_nm (by omega)]; exact decide_eq_false (by omega)
  have n2 : pAll (goodIt n) (nm 1000000000) = false := by rw [pAll_nm (by omega)]; exact decide_eq_false (by omega)
  have n3 : pAll (goodIt n) (nm (n + 1)) = false := by rw [pAll_nm (by omega)]; exact decide_eq_false (by omega)
  have g1 := fun k => gb_nm k n (by omega)
  have g2 := fun k => gb_nm k 1000000000 (by omega)
  have g3 := fun k => gb_nm k (n + 1) (by omega)
  have nf : ∀ (a : PyData) (r : List PyData), (∀ s, a ≠ .str s) → nameForm (.tuple (a :: r)) = false := by
    intro a r h
    cases a with
    | str s => exact absurd rfl (h s)
    | _ => rcases r with _ | ⟨_, _ | ⟨_, _⟩⟩ <;> rfl
  simp only [bads, List.mem_cons, List.not_mem_nil, or_false] at hb
  rcases hb with rfl | rfl | rfl | rfl | rfl | rfl | rfl | rfl | rfl
  · exact ⟨by rw [pAll]; rfl, gb_bool _ _, by rw [sz_bool]; omega⟩
  · exact ⟨by rw [pAll]; rfl, gb_list _ _, by rw [sz_list]; omega⟩
  · exact ⟨by rw [pAll]; rfl, gb_dict _ _, by rw [sz_dict]; omega⟩
  · exact ⟨n1, g1 3, by rw [sz_nm]; omega⟩
  · refine ⟨?_, ?_, ?_⟩
    · rw [pAll, nf _ _ (by simp)]
      simp [pAlls, n2]
    · rw [gb_tup]
      simp only [List.all_cons, List.all_nil, gb_int, g2, Bool.and_true]
      exact decide_eq_true (by decide)
    · rw [sz_tup, szs_cons, szs_cons, szs_nil, sz_nm, sz_int]
      omega
  · refine ⟨?_, ?_, ?_⟩
    · rw [pAll, nf _ _ (by simp)]
      simp only [pAlls]
      rw [pAll, nf _ _ (by simp)]
      simp only [pAlls]
      rw [pAll]
      rfl
    · rw [gb_tup]
      simp only [List.all_cons, List.all_nil, Bool.and_true]
      rw [gb_tup]
      simp only [List.all_cons, List.all_nil, Bool.and_true, gb_bool]
    · rw [sz_tup, szs_cons, szs_nil, sz_tup, szs_cons, szs_nil, sz_bool]
      omega
  · refine ⟨?_, ?_, ?_⟩
    · have : nameForm (.tuple [.str (Str.ofString "x"), .list [.int 1]]) = false := by simp [nameForm, isNum]
      rw [pAll, this]
      simp only [pAlls]
      rw [show pAll (goodIt n) (.list [.int 1]) = false by rw [pAll]; rfl]
      simp
    · rw [gb_tup]
      simp only [List.all_cons, List.all_nil, Bool.and_true, gb_str, gb_list]
    · rw [sz_tup, szs_cons, szs_cons, szs_nil, sz_str, sz_list]
      omega
  · have : nameForm (.tuple [.str (Str.ofString "y"), nm (n + 1)]) = false := by simp [nameForm, isNum, nm]
    refine ⟨?_, ?_, ?_⟩
    · rw [pAll, nf _ _ (by simp)]
      simp only [pAlls]
      rw [show pAll (goodIt n) (.tuple [.str (Str.ofString "y"), nm (n + 1)]) = false by rw [pAll, this]; simp [pAlls, n3]]
      simp
    · rw [gb_tup]
      simp only [List.all_cons, List.all_nil, Bool.and_true, gb_none, Bool.true_and]
      rw [gb_tup]
      simp only [List.all_cons, List.all_nil, Bool.and_true, gb_str, g3]
    · rw [sz_tup, szs_cons, szs_cons, szs_nil, sz_tup, szs_cons, szs_cons, szs_nil, sz_str, sz_nm, sz_none]
      omega
  · refine ⟨?_, ?_, ?_⟩
    · rw [pAll, nf _ _ (by simp)]
      simp only [pAlls]
      rw [show pAll (goodIt n) (.bool false) = false by rw [pAll]; rfl]
      simp
    · rw [gb_tup]
      simp only [List.all_cons, List.all_nil, Bool.and_true, gb_bool, gb_int, Bool.true_and]
      exact decide_eq_true (by decide)
    · rw [sz_tup, szs_cons, szs_cons, szs_nil, sz_bool, sz_int]
      omega
/-- the line of contents that are named in turn -/
def LineOk (cs : List PyData) : Prop := ∀ (j : Nat) (x : PyData), cs[j]? = some x → pAll (goodIt j) x = true ∧ Cn 3 x
theorem LineOk.mem {cs : List PyData} (r : LineOk cs) {x : PyData} (h : x ∈ cs) : Cn 3 x := by
  obtain ⟨j, hj⟩ := List.getElem?_of_mem h
  exact (r j x hj).2
theorem LineOk.snoc {cs : List PyData} (r : LineOk cs) {x : PyData} (h : pAll (goodIt cs.length) x = true) (c : Cn 3 x) : LineOk (cs ++ [x]) := by
  intro j y hj
  by_cases e : j < cs.length
  · rw [List.getElem?_append_left e] at hj
    exact r j y hj
  · rw [List.getElem?_append_right (by omega)] at hj
    have : j - cs.length = 0 := by
      rw [List.getElem?_eq_some_iff] at hj
      obtain ⟨a, _⟩ := hj
      simp at a
      omega
    rw [this] at hj
    simp at hj
    subst hj
    have : j = cs.length := by omega
    rw [this]
    exact ⟨h, c⟩
theorem idx_get {n m : Nat} {x : PyData} {cs : List PyData} {j : Nat} (hx : ck n x = true) (hc : ∀ c ∈ cs, ck m c = true) (h : idxD x cs 0 = some j) : cs[j]? = some x := by
  obtain ⟨k, z, e1, e2, e3, _⟩ := idxD_spec h
  have : j = k := by omega
  subst this
  have mz : z ∈ cs := List.mem_of_getElem? e2
  rw [e2, (ck_eqv m z x (hc z mz) n hx).mp e3]
theorem in_line {n m : Nat} {x : PyData} {cs : List PyData} {h : AH} {l : Nat} (hn : n ≤ 64) (hx : ck n x = true) (hc : ∀ c ∈ cs, ck m c = true) (hl : h.f l = some (.lst (cs.map .d))) : inB (.d x) (.ref l) h = some (decide (x ∈ cs)) := by
  obtain ⟨a, b, c⟩ := ck_plain n x hx
  obtain ⟨a', b', c'⟩ := cks_plain hc
  have c1 : x.depth ≤ 64 := by omega
  simp only [inB, toD, hl, allD_map, Option.map_some, a, a', Bool.true_and, decide_eq_true c1, if_true]
  congr 1
  by_cases e : x ∈ cs
  · rw [decide_eq_true e, List.any_eq_true]
    exact ⟨x, e, (ck_eqv n x x hx n hx).mpr rfl⟩
  · rw [decide_eq_false e, List.any_eq_false]
    exact fun y hy z => e (by rw [← (ck_eqv m y x (hc y hy) n hx).mp z]; exact hy)
theorem idx_line {n m j : Nat} {x : PyData} {cs : List PyData} (h : AH) (l : Nat) (hn : n ≤ 64) (hm : m ≤ 60) (hx : ck n x = true) (hc : ∀ c ∈ cs, ck m c = true) (hj : idxD x cs 0 = some j) : indexM l (cs.map .d) [.d x] h = some (.d (.int (j : Nat)), h) := by
  obtain ⟨a', b', c'⟩ := cks_plain hc
  have s1 : SeqAt.shaped (.list cs) = true := by
    have d1 : (PyData.list cs).depth = PyData.depthAll cs + 1 := by rw [PyData.depth]
    have d2 : (PyData.list cs).canLay0 = true := by rw [PyData.canLay0]; exact b'
    simp only [SeqAt.shaped, d1, d2, Bool.true_and, decide_eq_true_eq]
    omega
  simp only [indexM, allD_map, s1, ck_shaped hx hn, Bool.and_self, if_true, hj, Option.map_some]
end Q

set_option Elab.async false
set_option maxRecDepth 100000
set_option linter.all false
set_option autoImplicit false
set_option maxHeartbeats 1000000
/-! K15m: a lap of _law_named. -/
namespace Q
open PySem PySem.Spec PyProof.Rows L2 LamX
open Classical
noncomputable def nS1 : SemS := (sSet 4 (eIf (tAndS (tOf (eOp neO (eVar 2) (eLstD aNil))) (tOf (eOp eqO (eCall 2 f__law_draw (aCons (eVar 0) (aCons (eC (.int 4)) aNil))) (eC (.int 0))))) (eCall 2 f__law_pick (aCons (eVar 0) (aCons (eVar 2) aNil))) (eCall 3 f__law_content (aCons (eVar 0) (aCons (eApp lenO (aCons (eVar 2) aNil)) (aCons (eC (.int 3)) aNil))))))
noncomputable def nS2 : SemS := (sSet 4 (eIf (tOf (eCall 3 f__law_is_content (aCons (eVar 4) (aCons (eApp lenO (aCons (eVar 2) aNil)) (aCons (eC (.int 9)) aNil))))) (eVar 4) (eC (.str "x"))))
noncomputable def nS3 : SemS := (sIf (tOf (eOp notInO (eVar 4) (eVar 2))) (sExpr (eMt appendM (eVar 2) (aCons (eVar 4) aNil))) sNil)
noncomputable def nS4 : SemS := (sIf (tOrS (tOf (eOp neO (eMeth "Trust" "name" 2 f_Trust_name (eVar 1) (aCons (eVar 4) aNil)) (eTup (aCons (eC (.str "name")) (aCons (eMt indexM (eVar 2) (aCons (eVar 4) aNil)) aNil))))) (tOf (eOp neO (eMeth "Trust" "size" 1 f_Trust_size (eVar 1) aNil) (eApp lenO (aCons (eVar 2) aNil))))) (sRet (eC .none)) sNil)
noncomputable def nS5 : SemS := (sIf (tOf (eOp neO (eComp [6] (iSeq (eCall 2 f__law_names_in (aCons (eVar 4) (aCons (eC (.int 9)) aNil)))) (gN 6) (tOf (eOp geO (eVar 6) (eMt indexM (eVar 2) (aCons (eVar 4) aNil)))) (eVar 6)) (eLstD aNil))) (sRet (eC .none)) sNil)
noncomputable def nS6 : SemS := (sSet 5 (eCall 2 f__law_pick (aCons (eVar 0) (aCons (eLstD (aCons (eC (.bool true)) (aCons (eLstD (aCons (eC (.int 1)) aNil)) (aCons eDctD (aCons (eTup (aCons (eC (.str "name")) (aCons (eApp lenO (aCons (eVar 2) aNil)) aNil))) (aCons (eTup (aCons (eC (.int 1)) (aCons (eTup (aCons (eC (.str "name")) (aCons (eOp powO (eC (.int 10)) (eC (.int 9))) aNil))) aNil))) (aCons (eTup (aCons (eTup (aCons (eC (.bool true)) aNil)) aNil)) (aCons (eTup (aCons (eC (.str "x")) (aCons (eLstD (aCons (eC (.int 1)) aNil)) aNil))) (aCons (eTup (aCons (eC .none) (aCons (eTup (aCons (eC (.str "y")) (aCons (eTup (aCons (eC (.str "name")) (aCons (eOp addO (eApp lenO (aCons (eVar 2) aNil)) (eC (.int 1))) aNil))) aNil))) aNil))) (aCons (eTup (aCons (eC (.bool false)) (aCons (eC (.int 1)) aNil))) aNil)))))))))) aNil))))
noncomputable def nS7 : SemS := (sIf (tOrS (tOf (eCall 3 f__law_is_content (aCons (eVar 5) (aCons (eApp lenO (aCons (eVar 2) aNil)) (aCons (eC (.int 9)) aNil))))) (tOrS (tNotS (tOf (eUn (isiO (isiC CLS "BadContent")) (eCaught ERRS lams__law_named (eLam 0))))) (tOf (eOp neO (eMeth "Trust" "size" 1 f_Trust_size (eVar 1) aNil) (eApp lenO (aCons (eVar 2) aNil)))))) (sRet (eC .none)) sNil)
theorem b_named_eq : b__law_named = sSeq (sSet 2 (eLstH aNil)) (sSeq (sFor (iRange1 (eC (.int 24))) (gN 3) (sSeq nS1 (sSeq nS2 (sSeq nS3 (sSeq nS4 (sSeq nS5 (sSeq nS6 nS7))))))) (sRet (eVar 2))) := rfl
section
variable {h : AH} {p q t l n : Nat} {cs sl : List PyData} {x3 x4 x5 x6 : Option W}
theorem ev_s1 (r : TpAt h p q n) (hn : n + 1000 ≤ 1000000000) (hl : h.f l = some (.lst (cs.map .d))) (ll : l < h.n) (d : l ≠ p ∧ l ≠ q) (lo : ∀ x ∈ cs, Cn 3 x) (hc : cs.length ≤ 1000) : ∃ x h', nS1 [some (.ref p), some (.ref t), some (.ref l), x3, x4, x5, x6] h = .nx [some (.ref p), some (.ref t), some (.ref l), x3, some (.d x), x5, x6] h' ∧ Cn 3 x ∧ TpAt h' p q (n + 1000) ∧ Same [p, q] h h' := by
  have ne := neNil hl
  have E3 : E5 3 = 625 := rfl
  have con : ∀ {h1 : AH} {n1 : Nat}, TpAt h1 p q n1 → n1 ≤ n + 1 → Same [p, q] h h1 → ∃ x h', (eCall 3 f__law_content (aCons (eVar 0) (aCons (eApp lenO (aCons (eVar 2) aNil)) (aCons (eC (.int 3)) aNil)))) [some (.ref p), some (.ref t), some (.ref l), x3, x4, x5, x6] h1 = .ok (.d x) h' ∧ Cn 3 x ∧ TpAt h' p q (n + 1000) ∧ Same [p, q] h h' := by
    intro h1 n1 r1 hn1 s1
    obtain ⟨x, h', e1, c, r2, s2⟩ := ev_content_law cs.length (by omega) 14 3 r1 (by omega) (by omega)
    have hl1 : h1.f l = some (.lst (cs.map .d)) := by rw [s1.2 l ll (by simp [d]), hl]
    have ln : lenO [.ref l] h1 = some (.d (.int cs.length)) := by simp [lenO, lenL, hl1]
    have e1 : f__law_content [.ref p, .d (.int cs.length), .d (.int 3)] h1 = .ok (.d x) h' := e1
    exact ⟨x, h', by simp [ln, e1], c, r2.mono (by omega), s1.trans s2⟩
  cases cs with
  | nil =>
    obtain ⟨x, h', e1, c, r2, s2⟩ := con r (by omega) (Same.refl _ h)
    simp only [List.isEmpty_nil, Bool.not_true] at ne
    refine ⟨x, h', ?_, c, r2, s2⟩
    unfold nS1
    rw [ev_sSet, ev_if]
    simp [ne, -ev_call]
    rw [e1]
    rfl
  | cons c cs =>
    obtain ⟨v, h1, e1, v0, v1, r1, s1⟩ := ev_draw r (by omega) (size := 4) (by omega) (by decide)
    simp only [List.isEmpty_cons, Bool.not_false] at ne
    by_cases e : v = 0
    · have hl1 : h1.f l = some (.lst ((c :: cs).map .d)) := by rw [s1.2 l ll (by simp [d]), hl]
      obtain ⟨x, h', e2, m, r2, s2⟩ := ev_pickH r1 (by omega) hl1 (by have := s1.1; omega) d (by simp) (by omega)
      refine ⟨x, h', ?_, lo x m, r2.mono (by omega), s1.trans s2⟩
      unfold nS1
      rw [ev_sSet, ev_if]
      simp [ne, e1, e, e2]
    · obtain ⟨x, h', e2, m, r2, s2⟩ := con r1 (by omega) s1
      refine ⟨x, h', ?_, m, r2, s2⟩
      unfold nS1
      rw [ev_sSet, ev_if]
      have t1 : (tAndS (tOf (eOp neO (eVar 2) (eLstD aNil))) (tOf (eOp eqO (eCall 2 f__law_draw (aCons (eVar 0) (aCons (eC (.int 4)) aNil))) (eC (.int 0))))) [some (.ref p), some (.ref t), some (.ref l), x3, x4, x5, x6] h = .ok false h1 := by simp [ne, e1, e]
      rw [t1]
      simp only [out_ok, Bool.false_eq_true, if_false]
      rw [e2]
      rfl
theorem ev_s2 (hl : h.f l = some (.lst (cs.map .d))) {x : PyData} (c : Cn 3 x) : ∃ y, nS2 [some (.ref p), some (.ref t), some (.ref l), x3, some (.d x), x5, x6] h = .nx [some (.ref p), some (.ref t), some (.ref l), x3, some (.d y), x5, x6] h ∧ Cn 3 y ∧ pAll (goodIt cs.length) y = true := by
  have ln : lenO [.ref l] h = some (.d (.int cs.length)) := by simp [lenO, lenL, hl]
  have e1 : f__law_is_content [.d x, .d (.int cs.length), .d (.int 9)] h = .ok (.d (.bool (pAll (goodIt cs.length) x))) h := ev_is_content cs.length 4 x 14 9 h c.g (by omega) (by omega)
  cases e : pAll (goodIt cs.length) x with
  | true =>
    rw [e] at e1
    exact ⟨x, by simp [nS2, ln, e1], c, e⟩
  | false =>
    rw [e] at e1
    exact ⟨.str (Str.ofString "x"), by simp [nS2, ln, e1], cn_str 3 (ck_x 0), by rw [pAll]; rfl⟩
theorem ev_s3 (hl : h.f l = some (.lst (cs.map .d))) (lo : ∀ x ∈ cs, Cn 3 x) (hc : cs.length ≤ 1000) {x : PyData} (c : Cn 3 x) : ∃ h', nS3 [some (.ref p), some (.ref t), some (.ref l), x3, some (.d x), x5, x6] h = .nx [some (.ref p), some (.ref t), some (.ref l), x3, some (.d x), x5, x6] h' ∧ h'.f l = some (.lst ((if x ∈ cs then cs else cs ++ [x]).map .d)) ∧ Same [l] h h' := by
  have i := in_line (n := 4) (by omega) c.k (fun y hy => (lo y hy).k) hl
  by_cases e : x ∈ cs
  · refine ⟨h, ?_, by rw [if_pos e]; exact hl, Same.refl _ h⟩
    simp [nS3, notInO, i, e, bO]
  · refine ⟨h.set l (.lst ((cs ++ [x]).map .d)), ?_, by rw [if_neg e]; simp, (Same.refl _ h).set (by simp)⟩
    have : cs.length < 1000000 := by omega
    simp [nS3, notInO, i, e, bO, lstAt, hl, appendM, this]
theorem ev_s4 (r : TrAt h t cs sl) {x : PyData} (c : Cn 3 x) (hg : pAll (goodIt cs.length) x = true) (hl : h.f l = some (.lst ((if x ∈ cs then cs else cs ++ [x]).map .d))) (ll : t + 3 < l ∧ l < h.n) (lo : ∀ x ∈ cs, Cn 3 x) (hc : cs.length ≤ 1000) : ∃ h' j, nS4 [some (.ref p), some (.ref t), some (.ref l), x3, some (.d x), x5, x6] h = .nx [some (.ref p), some (.ref t), some (.ref l), x3, some (.d x), x5, x6] h' ∧ TrAt h' t (if x ∈ cs then cs else cs ++ [x]) sl ∧ Same [t + 1, t + 2] h h' ∧ idxD x (if x ∈ cs then cs else cs ++ [x]) 0 = some j := by
  have sz0 : sz x ≤ 1000000 := by
    have := c.s
    have E3 : E5 3 = 625 := rfl
    omega
  obtain ⟨h', cs', j, e1, r', s, e2, e3⟩ := ev_name r sz0 hg (ck_mono c.k (by omega)) (by omega)
  subst e2
  refine ⟨h', j, ?_, r', s, e3⟩
  have hl' : h'.f l = some (.lst ((if x ∈ cs then cs else cs ++ [x]).map .d)) := by rw [s.2 l ll.2 (by simp; omega), hl]
  have kc : ∀ y ∈ (if x ∈ cs then cs else cs ++ [x]), ck 4 y = true := by
    intro y hy
    split at hy
    · exact (lo y hy).k
    · rcases List.mem_append.mp hy with z | z
      · exact (lo y z).k
      · rw [List.mem_singleton.mp z]
        exact c.k
  have ix := idx_line (n := 4) (m := 4) h' l (by omega) (by omega) c.k kc e3
  have knm : ck 1 (nm j) = true := by
    rw [nm, ck_tup]
    simp [ck_name, ck_int]
  have ne : neO (.d (nm j)) (.d (nm j)) h' = some (.d (.bool false)) := by
    rw [neD_ev _ _ _ (ck_okD knm (by omega)) (ck_okD knm (by omega)), (ck_eqv 1 _ _ knm 1 knm).mpr rfl]
    rfl
  have ln : lenO [.ref l] h' = some (.d (.int (if x ∈ cs then cs else cs ++ [x]).length)) := by simp only [lenO, lenL, hl', Option.map_some, List.length_map]
  have sz1 := ev_size r'
  generalize (if x ∈ cs then cs else cs ++ [x]) = cs' at *
  have la : lstAt h' (.ref l) = some (l, cs'.map .d) := by simp [lstAt, hl']
  rw [nm] at e1 ne
  have t1 : (eMeth "Trust" "name" 2 f_Trust_name (eVar 1) (aCons (eVar 4) aNil)) [some (.ref p), some (.ref t), some (.ref l), x3, some (.d x), x5, x6] h = .ok (.d (.tuple [.str (Str.ofString "name"), .int (j : Int)])) h' := by simp [r.fo, e1]
  have t2 : (eTup (aCons (eC (.str "name")) (aCons (eMt indexM (eVar 2) (aCons (eVar 4) aNil)) aNil))) [some (.ref p), some (.ref t), some (.ref l), x3, some (.d x), x5, x6] h' = .ok (.d (.tuple [.str (Str.ofString "name"), .int (j : Int)])) h' := by simp [la, ix]
  have t3 : (eMeth "Trust" "size" 1 f_Trust_size (eVar 1) aNil) [some (.ref p), some (.ref t), some (.ref l), x3, some (.d x), x5, x6] h' = .ok (.d (.int cs'.length)) h' := by simp [r'.fo, sz1]
  unfold nS4
  rw [ev_sIf, ev_tOr, ev_tOf, ev_op, t1, out_ok, t2, out_ok, ne]
  simp only [ofOpt_some, out_ok, Bool.false_eq_true, if_false]
  rw [ev_tOf, ev_op, t3]
  simp [ln]
end
end Q

set_option Elab.async false
set_option maxRecDepth 100000
set_option linter.all false
set_option autoImplicit false
set_option maxHeartbeats 1000000
/-! K15n: the rest of a lap of _law_named. -/
namespace Q
open PySem PySem.Spec PyProof.Rows L2 LamX
open Classical
section
variable {h : AH} {p q t l n : Nat} {cs sl : List PyData} {x3 x4 x5 x6 : Option W}
theorem ev_s5 {x : PyData} (c : Cn 3 x) {j : Nat} (hl : h.f l = some (.lst (cs.map .d))) (hj : idxD x cs 0 = some j) (lo : LineOk cs) : nS5 [some (.ref p), some (.ref t), some (.ref l), x3, some (.d x), x5, x6] h = .nx [some (.ref p), some (.ref t), some (.ref l), x3, some (.d x), x5, x6] h := by
  have kc : ∀ y ∈ cs, ck 4 y = true := fun y hy => (lo.mem hy).k
  have sz0 : sz x ≤ 1000000 := by
    have := c.s
    have E3 : E5 3 = 625 := rfl
    omega
  have ix := idx_line (n := 4) (m := 4) h l (by omega) (by omega) c.k kc hj
  have good := (lo j x (idx_get c.k kc hj)).1
  obtain ⟨ns, e1, _, lt⟩ := ev_names_in 4 x 14 9 h c.g (by omega) (by omega) sz0
  have lt := lt j good
  have e1 : f__law_names_in [.d x, .d (.int 9)] h = .ok (.d (.list (ns.map .int))) h := e1
  have la : lstAt h (.ref l) = some (l, cs.map .d) := by simp [lstAt, hl]
  have q := compL_filter (chk := fun _ => True) (g := gN 6) (mt := tOf (eOp geO (eVar 6) (eMt indexM (eVar 2) (aCons (eVar 4) aNil)))) (me := eVar 6) (ρ := [some (.ref p), some (.ref t), some (.ref l), x3, some (.d x), x5, none]) (h := h) (fun w => match w with
    | .d (.int z) => decide ((j : Int) ≤ z)
    | _ => false) (fun w => w) trivial ((ns.map PyData.int).map .d) (by
      intro w hw
      rw [List.map_map] at hw
      obtain ⟨z, _, rfl⟩ := List.mem_map.mp hw
      exact ⟨_, rfl, by simp [la, ix], fun _ => by simp⟩)
  have f : ((((ns.map PyData.int).map W.d).filter fun w => match w with
    | .d (.int z) => decide ((j : Int) ≤ z)
    | _ => false).map fun w => w) = [] := by
    rw [List.map_id', List.filter_eq_nil_iff]
    intro w hw
    rw [List.map_map] at hw
    obtain ⟨z, hz, rfl⟩ := List.mem_map.mp hw
    have := lt z hz
    simp
    omega
  rw [f] at q
  have k : eComp [6] (iSeq (eCall 2 f__law_names_in (aCons (eVar 4) (aCons (eC (.int 9)) aNil)))) (gN 6) (tOf (eOp geO (eVar 6) (eMt indexM (eVar 2) (aCons (eVar 4) aNil)))) (eVar 6) [some (.ref p), some (.ref t), some (.ref l), x3, some (.d x), x5, x6] h = .ok (.d (.list [])) h := by
    rw [ev_comp, ev_seq, ev_call]
    simp only [ev_cons, ev_var, ev_c, ev_nil, out_ok, List.getElem?_cons_zero, List.getElem?_cons_succ, List.all_cons, List.all_nil, flat_d, Bool.and_self, List.length_cons, List.length_nil, and_self, if_true, e1, wipR, List.set, q, allD_nil, Option.map_some, ofOpt_some]
  unfold nS5
  rw [ev_sIf, ev_tOf, ev_op, k]
  simp [neNilD]
theorem ev_s6 (r : TpAt h p q n) (hn : n + 1 ≤ 1000000000) (hl : h.f l = some (.lst (cs.map .d))) : ∃ x h', nS6 [some (.ref p), some (.ref t), some (.ref l), x3, x4, x5, x6] h = .nx [some (.ref p), some (.ref t), some (.ref l), x3, x4, some (.d x), x6] h' ∧ x ∈ bads cs.length ∧ TpAt h' p q (n + 1) ∧ Same [p, q] h h' := by
  obtain ⟨x, h', e1, m, r', s⟩ := ev_pick r (by omega) (ds := bads cs.length) (by simp [bads]) (by simp [bads])
  refine ⟨x, h', ?_, m, r', s⟩
  have ln : lenO [.ref l] h = some (.d (.int cs.length)) := by simp [lenO, lenL, hl]
  have pw : powO (.d (.int 10)) (.d (.int 9)) h = some (.d (.int 1000000000)) := pow_ev (by omega) (by omega) (by decide) h
  unfold nS6
  rw [ev_sSet, ev_call]
  have a : (aCons (eVar 0) (aCons (eLstD (aCons (eC (.bool true)) (aCons (eLstD (aCons (eC (.int 1)) aNil)) (aCons eDctD (aCons (eTup (aCons (eC (.str "name")) (aCons (eApp lenO (aCons (eVar 2) aNil)) aNil))) (aCons (eTup (aCons (eC (.int 1)) (aCons (eTup (aCons (eC (.str "name")) (aCons (eOp powO (eC (.int 10)) (eC (.int 9))) aNil))) aNil))) (aCons (eTup (aCons (eTup (aCons (eC (.bool true)) aNil)) aNil)) (aCons (eTup (aCons (eC (.str "x")) (aCons (eLstD (aCons (eC (.int 1)) aNil)) aNil))) (aCons (eTup (aCons (eC .none) (aCons (eTup (aCons (eC (.str "y")) (aCons (eTup (aCons (eC (.str "name")) (aCons (eOp addO (eApp lenO (aCons (eVar 2) aNil)) (eC (.int 1))) aNil))) aNil))) aNil))) (aCons (eTup (aCons (eC (.bool false)) (aCons (eC (.int 1)) aNil))) aNil)))))))))) aNil)) [some (.ref p), some (.ref t), some (.ref l), x3, x4, x5, x6] h = .ok [.ref p, .d (.list (bads cs.length))] h := by
    simp [ln, pw, bads, nm]
  rw [a]
  simp [e1]
theorem ev_s7 (r : TrAt h t cs sl) {x : PyData} (hx : x ∈ bads cs.length) (hc : cs.length ≤ 1000) (hl : h.f l = some (.lst (cs.map .d))) (ll : l < h.n) : ∃ h', nS7 [some (.ref p), some (.ref t), some (.ref l), x3, x4, some (.d x), x6] h = .nx [some (.ref p), some (.ref t), some (.ref l), x3, x4, some (.d x), x6] h' ∧ Same [] h h' := by
  obtain ⟨b1, b2, b3⟩ := bads_ok hc x hx
  obtain ⟨h', e1, s⟩ := ev_name_bad r b3 b1
  have r' := r.same s (by simp)
  refine ⟨h', ?_, s⟩
  have ln : lenO [.ref l] h = some (.d (.int cs.length)) := by simp [lenO, lenL, hl]
  have hl' : h'.f l = some (.lst (cs.map .d)) := by rw [s.2 l ll (by simp), hl]
  have ln' : lenO [.ref l] h' = some (.d (.int cs.length)) := by simp [lenO, lenL, hl']
  have e2 : f__law_is_content [.d x, .d (.int cs.length), .d (.int 9)] h = .ok (.d (.bool false)) h := by
    rw [← b1]
    exact ev_is_content cs.length 4 x 14 9 h b2 (by omega) (by omega)
  have cau : ∀ ρ : Env', ρ[1]? = some (some (.ref t)) → ρ[5]? = some (some (.d x)) → eCaught ERRS lams__law_named (eLam 0) ρ h = .ok (.exc "BadContent" []) h' := by
    intro ρ h1 h5
    have f1 : (flatE ρ)[1]? = some (some (.ref t)) := by simp [flatE, List.getElem?_map, h1]
    have f5 : (flatE ρ)[5]? = some (some (.d x)) := by simp [flatE, List.getElem?_map, h5]
    have k : (eMeth "Trust" "name" 2 f_Trust_name (eVar 1) (aCons (eVar 5) aNil)) (flatE ρ) h = .err "BadContent" [] h' := by simp [f1, f5, r.fo, e1]
    simp [eCaught, lams__law_named, caughtTo, k, ERRS, -ev_meth]
  have is : isiO (isiC CLS "BadContent") (.exc "BadContent" []) h' = some (.d (.bool true)) := by simp [isiO, isiC, typW, CLS, ClsT.sub, bO]
  have t3 : (eMeth "Trust" "size" 1 f_Trust_size (eVar 1) aNil) [some (.ref p), some (.ref t), some (.ref l), x3, x4, some (.d x), x6] h' = .ok (.d (.int cs.length)) h' := by simp [r'.fo, ev_size r']
  unfold nS7
  rw [ev_sIf, ev_tOr]
  simp [ln, e2, -ev_tOr, -ev_meth]
  rw [ev_tOr, ev_tNot, ev_tOf, ev_un, cau _ rfl rfl]
  simp [is, -ev_meth]
  rw [t3]
  simp [ln']
end
end Q

set_option Elab.async false
set_option maxRecDepth 100000
set_option linter.all false
set_option autoImplicit false
set_option maxHeartbeats 1000000
/-! K15o: _law_named. -/
namespace Q
open PySem PySem.Spec PyProof.Rows L2 LamX
open Classical
theorem snoc_ok {cs : List PyData} {x : PyData} (lo : LineOk cs) (c : Cn 3 x) (g : pAll (goodIt cs.length) x = true) : LineOk (if x ∈ cs then cs else cs ++ [x]) := by
  split
  · exact lo
  · exact lo.snoc g c
theorem snoc_len (cs : List PyData) (x : PyData) : (if x ∈ cs then cs else cs ++ [x]).length ≤ cs.length + 1 := by
  split <;> simp
theorem snoc_pos (cs : List PyData) (x : PyData) : 0 < (if x ∈ cs then cs else cs ++ [x]).length := by
  split
  · rename_i h
    exact List.length_pos_of_mem h
  · simp
/-- the state at the start of a lap -/
structure NmJ (h0 : AH) (p q t l n : Nat) (i : Nat) (ρ : Env') (h : AH) : Prop where
  ex : ∃ (cs : List PyData) (x3 x4 x5 x6 : Option W), ρ = [some (.ref p), some (.ref t), some (.ref l), x3, x4, x5, x6] ∧ h.f l = some (.lst (cs.map .d)) ∧ TrAt h t cs [] ∧ LineOk cs ∧ cs.length ≤ i ∧ (0 < i → 0 < cs.length)
  tp : TpAt h p q (n + i * 2000)
  lt : t + 3 < l ∧ l < h.n
  sm : Same [p, q, t + 1, t + 2, l] h0 h
theorem ev_named {h : AH} {p q t n : Nat} (rt : TrAt h t [] []) (rp : TpAt h p q n) (d : p < t ∧ q < t) (hn : n + 100000 ≤ 1000000000) : ∃ l h' cs, f__law_named [.ref p, .ref t] h = .ok (.ref l) h' ∧ h'.f l = some (.lst (cs.map .d)) ∧ h.n ≤ l ∧ l < h'.n ∧ TrAt h' t cs [] ∧ LineOk cs ∧ 0 < cs.length ∧ cs.length ≤ 24 ∧ TpAt h' p q (n + 48000) ∧ Same [p, q, t + 1, t + 2] h h' := by
  have s0 : Same [] h (h.new (.lst [])) := (Same.refl _ h).new
  have j0 : NmJ h p q t h.n n 0 [some (.ref p), some (.ref t), some (.ref h.n), none, none, none, none] (h.new (.lst [])) := ⟨⟨[], none, none, none, none, rfl, by simp, rt.same s0 (by simp), fun j x hj => by simp at hj, Nat.le_refl _, fun z => absurd z (Nat.lt_irrefl 0)⟩, by simpa using rp.same s0 (by simp), ⟨rt.lt, by simp⟩, s0.mono (by simp)⟩
  obtain ⟨ρ', h', e1, j1⟩ := forL_at (chk := fun _ => True) (g := gN 3) (b := sSeq nS1 (sSeq nS2 (sSeq nS3 (sSeq nS4 (sSeq nS5 (sSeq nS6 nS7)))))) (NmJ h p q t h.n n) (fun _ _ _ _ => trivial) (rngW 0 24) 0 _ _ j0 (by
    intro j w hw ρ h1 ⟨⟨cs, x3, x4, x5, x6, eρ, hl, tr, lo, len, _⟩, tpa, lt, sm⟩
    subst eρ
    have hj : j < 24 := by
      have := List.getElem?_eq_some_iff.mp hw
      obtain ⟨a, _⟩ := this
      simpa [rngW] using a
    rw [Nat.zero_add] at *
    refine ⟨_, rfl, ?_⟩
    have dl : h.n ≠ p ∧ h.n ≠ q := by omega
    obtain ⟨x, h2, a1, c1, tp1, m1⟩ := ev_s1 (t := t) (x3 := some w) (x4 := x4) (x5 := x5) (x6 := x6) tpa (by omega) hl lt.2 dl (fun x hx => lo.mem hx) (by omega)
    have tr2 := tr.same m1 (by simp; omega)
    have hl2 : h2.f h.n = some (.lst (cs.map .d)) := by rw [m1.2 _ lt.2 (by simp [dl]), hl]
    obtain ⟨y, a2, c2, g2⟩ := ev_s2 (p := p) (t := t) (x3 := some w) (x5 := x5) (x6 := x6) hl2 c1
    obtain ⟨h3, a3, hl3, m3⟩ := ev_s3 (p := p) (t := t) (x3 := some w) (x5 := x5) (x6 := x6) hl2 (fun x hx => lo.mem hx) (by omega) c2
    have n2 : h1.n ≤ h2.n := m1.1
    have n3 : h2.n ≤ h3.n := m3.1
    have tr3 := tr2.same m3 (by simp; omega)
    obtain ⟨h4, jx, a4, tr4, m4, ix⟩ := ev_s4 (p := p) (x3 := some w) (x5 := x5) (x6 := x6) tr3 c2 g2 hl3 ⟨lt.1, by omega⟩ (fun x hx => lo.mem hx) (by omega)
    have n4 : h3.n ≤ h4.n := m4.1
    have hl4 : h4.f h.n = some (.lst ((if y ∈ cs then cs else cs ++ [y]).map .d)) := by rw [m4.2 _ (by omega) (by simp; omega), hl3]
    have lo4 := snoc_ok lo c2 g2
    have len4 := snoc_len cs y
    have pos4 := snoc_pos cs y
    generalize (if y ∈ cs then cs else cs ++ [y]) = cs' at *
    have a5 := ev_s5 (p := p) (t := t) (x3 := some w) (x5 := x5) (x6 := x6) c2 hl4 ix lo4
    have tp4 : TpAt h4 p q (n + j * 2000 + 1000) := (tp1.same m3 (by simp; omega)).same m4 (by simp; omega)
    obtain ⟨b, h5, a6, mb, tp5, m5⟩ := ev_s6 (t := t) (x3 := some w) (x4 := some (.d y)) (x5 := x5) (x6 := x6) tp4 (by omega) hl4
    have n5 : h4.n ≤ h5.n := m5.1
    have tr5 := tr4.same m5 (by simp; omega)
    have hl5 : h5.f h.n = some (.lst (cs'.map .d)) := by rw [m5.2 _ (by omega) (by simp [dl]), hl4]
    obtain ⟨h6, a7, m6⟩ := ev_s7 (p := p) (x3 := some w) (x4 := some (.d y)) (x6 := x6) tr5 mb (by omega) hl5 (by omega)
    have n6 : h5.n ≤ h6.n := m6.1
    refine ⟨_, h6, ?_, ⟨⟨cs', some w, some (.d y), some (.d b), x6, rfl, by rw [m6.2 _ (by omega) (by simp), hl5], tr5.same m6 (by simp), lo4, by omega, fun _ => pos4⟩, ?_, ⟨lt.1, by omega⟩, ?_⟩⟩
    · simp only [List.set, ev_sSeq, a1, a2, a3, a4, a5, a6, a7]
    · exact (tp5.same m6 (by simp)).mono (by rw [Nat.succ_mul]; omega)
    · exact ((((sm.trans (m1.mono (by simp))).trans (m3.mono (by simp))).trans (m4.mono (by simp))).trans (m5.mono (by simp))).trans (m6.mono (by simp)))
  have hl : (rngW 0 24).length = 24 := by simp [rngW]
  rw [hl] at j1
  obtain ⟨⟨cs, x3, x4, x5, x6, eρ, hl', tr, lo, len, pos⟩, tpa, lt, sm⟩ := j1
  subst eρ
  refine ⟨h.n, h', cs, ?_, hl', Nat.le_refl _, lt.2, tr, lo, pos (by omega), by omega, tpa.mono (by omega), sm.1, fun k hk hs => sm.2 k hk (by simp at hs ⊢; omega)⟩
  unfold f__law_named
  rw [b_named_eq]
  simp only [mkFnL, List.map, List.length, List.replicate, List.cons_append, List.nil_append, Nat.reduceSub, Nat.reduceAdd]
  rw [ev_sSeq, ev_sSet, ev_lstH]
  simp only [ev_nil, out_ok, List.all_nil, List.length_nil, Nat.zero_le, and_self, if_true, st_ok, List.set]
  rw [ev_sSeq, ev_for, ev_range]
  simp only [ev_c, out_ok]
  rw [if_pos (by omega)]
  simp only [st_ok]
  rw [show Int.toNat 24 = 24 from rfl, e1]
  rfl
end Q

set_option Elab.async false
set_option maxRecDepth 100000
set_option linter.all false
set_option autoImplicit false
set_option maxHeartbeats 1000000
/-! K15p: _law_seals_right. -/
namespace Q
open PySem PySem.Spec PyProof.Rows L2 LamX
open Classical
noncomputable def zS1 : SemS := (sSet 3 (eLstH aNil))
noncomputable def zS2_1 : SemS := (sSet 5 (eTup (aCons (eCall 2 f__law_pick (aCons (eVar 0) (aCons (eLstD (aCons (eC (.str "owner")) (aCons (eC (.str "member")) aNil))) aNil))) (aCons (eCall 2 f__law_draw (aCons (eVar 0) (aCons (eC (.int 4)) aNil))) aNil))))
noncomputable def zS2_2 : SemS := (sSet 6 (eTup (aCons (eC (.str "name")) (aCons (eCall 2 f__law_draw (aCons (eVar 0) (aCons (eApp lenO (aCons (eVar 2) aNil)) aNil))) aNil))))
noncomputable def zS2_3 : SemS := (sIf (tOf (eOp eqO (eCall 2 f__law_draw (aCons (eVar 0) (aCons (eC (.int 2)) aNil))) (eC (.int 0)))) (sSeq (sIf (tOf (eOp isNotO (eMeth "Trust" "seal" 3 f_Trust_seal (eVar 1) (aCons (eVar 5) (aCons (eVar 6) aNil))) (eC .none))) (sRet (eC (.bool false))) sNil) (sExpr (eMt appendM (eVar 3) (aCons (eTup (aCons (eVar 5) (aCons (eVar 6) aNil))) aNil)))) sNil)
noncomputable def zS2_4 : SemS := (sIf (tNotS (tOf (eCall 2 f__law_is_bool (aCons (eMeth "Trust" "sealed" 3 f_Trust_sealed (eVar 1) (aCons (eVar 5) (aCons (eVar 6) aNil))) (aCons (eOp inO (eTup (aCons (eVar 5) (aCons (eVar 6) aNil))) (eVar 3)) aNil))))) (sRet (eC (.bool false))) sNil)
noncomputable def zS2 : SemS := (sFor (iRange1 (eC (.int 20))) (gN 4) (sSeq zS2_1 (sSeq zS2_2 (sSeq zS2_3 zS2_4))))
noncomputable def zS3_1 : SemS := (sSet 7 (eClos (aCons (eLam 0) (aCons (eLam 1) aNil))))
noncomputable def zS3_2 : SemS := (sIf (tOf (eOp neO (eCompC [8] (iSeq (eVar 7)) (gN 8) (fun ρ0 => (tNotS (tOf (eUn (isiO (isiC CLS "BadWho")) (eCaughtB ERRS lams__law_seals_right ρ0 (eVar 8)))))) (fun ρ0 => (eVar 8))) (eLstD aNil))) (sRet (eC (.bool false))) sNil)
noncomputable def zS3 : SemS := (sFor (iSeq (eLstD (aCons (eC .none) (aCons (eTup (aCons (eC (.str "owner")) aNil)) (aCons (eTup (aCons (eC (.str "owner")) (aCons (eUn negO (eC (.int 1))) aNil))) (aCons (eTup (aCons (eC (.str "owner")) (aCons (eC (.bool true)) aNil))) (aCons (eLstD (aCons (eC (.str "owner")) (aCons (eC (.int 0)) aNil))) (aCons (eTup (aCons (eC (.str "Owner")) (aCons (eC (.int 0)) aNil))) (aCons (eTup (aCons (eC (.str "owner")) (aCons (eC (.int 0)) (aCons (eC (.int 0)) aNil)))) (aCons (eTup (aCons (eC (.str "member")) (aCons (eC (.str "0")) aNil))) (aCons (eTup (aCons (eC (.int 5)) (aCons (eC (.int 0)) aNil))) aNil))))))))))) (gN 5) (sSeq zS3_1 zS3_2))
noncomputable def zS4_1 : SemS := (sSet 7 (eClos (aCons (eLam 2) (aCons (eLam 3) (aCons (eLam 4) aNil)))))
noncomputable def zS4_2 : SemS := (sIf (tOrS (tOf (eOp neO (eCompC [8] (iSeq (eVar 7)) (gN 8) (fun ρ0 => (tNotS (tOf (eUn (isiO (isiC CLS "BadName")) (eCaughtB ERRS lams__law_seals_right ρ0 (eVar 8)))))) (fun ρ0 => (eVar 8))) (eLstD aNil))) (tOf (eOp isNotO (eMeth "Trust" "is_name" 2 f_Trust_is_name (eVar 1) (aCons (eVar 6) aNil)) (eC (.bool false))))) (sRet (eC (.bool false))) sNil)
noncomputable def zS4 : SemS := (sFor (iSeq (eLstD (aCons (eC .none) (aCons (eC (.int 0)) (aCons (eTup (aCons (eC (.str "name")) (aCons (eApp lenO (aCons (eVar 2) aNil)) aNil))) (aCons (eTup (aCons (eC (.str "name")) (aCons (eUn negO (eC (.int 1))) aNil))) (aCons (eTup (aCons (eC (.str "name")) (aCons (eC (.bool true)) aNil))) (aCons (eLstD (aCons (eC (.str "name")) (aCons (eC (.int 0)) aNil))) (aCons (eTup (aCons (eC (.str "name")) aNil)) (aCons (eTup (aCons (eC (.str "Name")) (aCons (eC (.int 0)) aNil))) (aCons (eTup (aCons (eC (.str "name")) (aCons (eC (.int 0)) (aCons (eC (.int 0)) aNil)))) aNil))))))))))) (gN 6) (sSeq zS4_1 zS4_2))
noncomputable def zS5 : SemS := (sRet (eC (.bool true)))
theorem b_zS_eq : b__law_seals_right = (sSeq zS1 (sSeq zS2 (sSeq zS3 (sSeq zS4 zS5)))) := rfl

theorem ev_compC {own : List Nat} {mi : SemI} {g : SemG} {mt : Env' → SemT} {me : Env' → SemE} {ρ : Env'} {h : AH} : eCompC own mi g mt me ρ h = (mi ρ h).bind fun p h1 => (compL p.2 g (mt (flatE ρ)) (me (flatE ρ)) (wipR ρ own) p.1 h1).bind fun ys h2 => .ofOpt ((allD ys).map fun ds => .d (.list ds)) h2 := rfl
theorem is_who_exc (h : AH) : isiO (isiC CLS "BadWho") (.exc "BadWho" []) h = some (.d (.bool true)) := by simp [isiO, isiC, typW, CLS, ClsT.sub, bO]
theorem is_name_exc (h : AH) : isiO (isiC CLS "BadName") (.exc "BadName" []) h = some (.d (.bool true)) := by simp [isiO, isiC, typW, CLS, ClsT.sub, bO]
section
variable {h : AH} {p q t l z n : Nat} {cs sl : List PyData} {x3 x4 x5 x6 x7 x8 : Option W}
def whos : List PyData := [.none, .tuple [.str (Str.ofString "owner")], .tuple [.str (Str.ofString "owner"), .int (-1)], .tuple [.str (Str.ofString "owner"), .bool true], .list [.str (Str.ofString "owner"), .int 0], .tuple [.str (Str.ofString "Owner"), .int 0], .tuple [.str (Str.ofString "owner"), .int 0, .int 0], .tuple [.str (Str.ofString "member"), .str (Str.ofString "0")], .tuple [.int 5, .int 0]]
theorem whos_bad : ∀ w ∈ whos, isWho w = false := by
  intro w hw
  simp only [whos, List.mem_cons, List.not_mem_nil, or_false] at hw
  rcases hw with rfl | rfl | rfl | rfl | rfl | rfl | rfl | rfl | rfl <;> simp [isWho, isNum, ofS_iff, beq_eq_false_iff_ne]
def nmsBad (n : Nat) : List PyData := [.none, .int 0, nm n, .tuple [.str (Str.ofString "name"), .int (-1)], .tuple [.str (Str.ofString "name"), .bool true], .list [.str (Str.ofString "name"), .int 0], .tuple [.str (Str.ofString "name")], .tuple [.str (Str.ofString "Name"), .int 0], .tuple [.str (Str.ofString "name"), .int 0, .int 0]]
theorem nmsBad_bad (n : Nat) : ∀ w ∈ nmsBad n, isNm n w = false := by
  intro w hw
  simp only [nmsBad, List.mem_cons, List.not_mem_nil, or_false] at hw
  rcases hw with rfl | rfl | rfl | rfl | rfl | rfl | rfl | rfl | rfl
  · rfl
  · rfl
  · show ((Str.ofString "name" == Str.ofString "name") && (decide ((0 : Int) ≤ (n : Int)) && decide ((n : Int) < 1000000000000000000)) && decide ((n : Int) < (n : Int))) = false
    rw [decide_eq_false (show ¬ (n : Int) < (n : Int) by omega), Bool.and_false]
  · simp [isNm]
  · rfl
  · rfl
  · rfl
  · simp [isNm, ofS_iff, beq_eq_false_iff_ne]
  · rfl
/-- .. the faults of who -/
theorem ev_z3 (r : TrAt h t cs sl) (hc : 0 < cs.length) {w : PyData} (hw : isWho w = false) : (sSeq zS3_1 zS3_2) [some (.ref p), some (.ref t), some (.ref l), x3, x4, some (.d w), x6, x7, x8] h = .nx [some (.ref p), some (.ref t), some (.ref l), x3, x4, some (.d w), x6, some (.clos [0, 1]), x8] h := by
  have f0 : (flatE [some (.ref p), some (.ref t), some (.ref l), x3, x4, some (.d w), x6, some (.clos [0, 1]), x8])[1]? = some (some (.ref t)) := rfl
  have f5 : (flatE [some (.ref p), some (.ref t), some (.ref l), x3, x4, some (.d w), x6, some (.clos [0, 1]), x8])[5]? = some (some (.d w)) := rfl
  have q := compL_filter (chk := fun _ => True) (g := gN 8) (mt := tNotS (tOf (eUn (isiO (isiC CLS "BadWho")) (eCaughtB ERRS lams__law_seals_right (flatE [some (.ref p), some (.ref t), some (.ref l), x3, x4, some (.d w), x6, some (.clos [0, 1]), x8]) (eVar 8))))) (me := eVar 8) (ρ := [some (.ref p), some (.ref t), some (.ref l), x3, x4, some (.d w), x6, some (.clos [0, 1]), none]) (h := h) (fun _ => false) (fun w => w) trivial ([0, 1].map .clo) (by
    intro v hv
    simp only [List.map_cons, List.map_nil, List.mem_cons, List.not_mem_nil, or_false] at hv
    refine ⟨_, rfl, ?_, fun z => by cases z⟩
    generalize flatE [some (.ref p), some (.ref t), some (.ref l), x3, x4, some (.d w), x6, some (.clos [0, 1]), x8] = ρ0 at f0 f5
    rcases hv with rfl | rfl
    · have k : (eMeth "Trust" "seal" 3 f_Trust_seal (eVar 1) (aCons (eVar 5) (aCons (eTup (aCons (eC (.str "name")) (aCons (eC (.int 0)) aNil))) aNil))) ρ0 h = .err "BadWho" [] h := by simp [f0, f5, r.fo, ev_seal_who r hw]
      simp [eCaughtB, lams__law_seals_right, caughtTo, k, ERRS, is_who_exc, -ev_meth]
    · have k : (eMeth "Trust" "sealed" 3 f_Trust_sealed (eVar 1) (aCons (eVar 5) (aCons (eTup (aCons (eC (.str "name")) (aCons (eC .none) aNil))) aNil))) ρ0 h = .err "BadWho" [] h := by simp [f0, f5, r.fo, ev_sealed_who r hw]
      have k' : (eMeth "Trust" "sealed" 3 f_Trust_sealed (eVar 1) (aCons (eVar 5) (aCons (eC .none) aNil))) ρ0 h = .err "BadWho" [] h := by simp [f0, f5, r.fo, ev_sealed_who r hw]
      simp [eCaughtB, lams__law_seals_right, caughtTo, k, k', ERRS, is_who_exc, -ev_meth])
  simp only [List.map_cons, List.map_nil, List.filter_cons, List.filter_nil, Bool.false_eq_true, if_false] at q
  unfold zS3_1 zS3_2
  simp [allC]
  rw [ev_compC, ev_seq]
  simp only [ev_var, List.getElem?_cons_zero, List.getElem?_cons_succ, out_ok, wipR, List.set, List.map_cons, List.map_nil, q, allD_nil, Option.map_some, ofOpt_some]
  simp [neNilD]
theorem ev_z4 (r : TrAt h t cs sl) {w : PyData} (hw : isNm cs.length w = false) : (sSeq zS4_1 zS4_2) [some (.ref p), some (.ref t), some (.ref l), x3, x4, x5, some (.d w), x7, x8] h = .nx [some (.ref p), some (.ref t), some (.ref l), x3, x4, x5, some (.d w), some (.clos [2, 3, 4]), x8] h := by
  have f0 : (flatE [some (.ref p), some (.ref t), some (.ref l), x3, x4, x5, some (.d w), some (.clos [2, 3, 4]), x8])[1]? = some (some (.ref t)) := rfl
  have f5 : (flatE [some (.ref p), some (.ref t), some (.ref l), x3, x4, x5, some (.d w), some (.clos [2, 3, 4]), x8])[6]? = some (some (.d w)) := rfl
  have w1 : isWho (.tuple [.str (Str.ofString "owner"), .int 0]) = true := by simp [isWho, isNum]
  have w2 : isWho (.tuple [.str (Str.ofString "member"), .int 1]) = true := by simp [isWho, isNum]
  have q := compL_filter (chk := fun _ => True) (g := gN 8) (mt := tNotS (tOf (eUn (isiO (isiC CLS "BadName")) (eCaughtB ERRS lams__law_seals_right (flatE [some (.ref p), some (.ref t), some (.ref l), x3, x4, x5, some (.d w), some (.clos [2, 3, 4]), x8]) (eVar 8))))) (me := eVar 8) (ρ := [some (.ref p), some (.ref t), some (.ref l), x3, x4, x5, some (.d w), some (.clos [2, 3, 4]), none]) (h := h) (fun _ => false) (fun w => w) trivial ([2, 3, 4].map .clo) (by
    intro v hv
    simp only [List.map_cons, List.map_nil, List.mem_cons, List.not_mem_nil, or_false] at hv
    refine ⟨_, rfl, ?_, fun z => by cases z⟩
    generalize flatE [some (.ref p), some (.ref t), some (.ref l), x3, x4, x5, some (.d w), some (.clos [2, 3, 4]), x8] = ρ0 at f0 f5
    rcases hv with rfl | rfl | rfl
    · have k : (eMeth "Trust" "seal" 3 f_Trust_seal (eVar 1) (aCons (eTup (aCons (eC (.str "owner")) (aCons (eC (.int 0)) aNil))) (aCons (eVar 6) aNil))) ρ0 h = .err "BadName" [] h := by simp [f0, f5, r.fo, ev_seal_name r w1 hw]
      simp [eCaughtB, lams__law_seals_right, caughtTo, k, ERRS, is_name_exc, -ev_meth]
    · have k : (eMeth "Trust" "sealed" 3 f_Trust_sealed (eVar 1) (aCons (eTup (aCons (eC (.str "member")) (aCons (eC (.int 1)) aNil))) (aCons (eVar 6) aNil))) ρ0 h = .err "BadName" [] h := by simp [f0, f5, r.fo, ev_sealed_name r w2 hw]
      simp [eCaughtB, lams__law_seals_right, caughtTo, k, ERRS, is_name_exc, -ev_meth]
    · have k : (eMeth "Trust" "content" 2 f_Trust_content (eVar 1) (aCons (eVar 6) aNil)) ρ0 h = .err "BadName" [] h := by simp [f0, f5, r.fo, ev_content_bad r hw]
      simp [eCaughtB, lams__law_seals_right, caughtTo, k, ERRS, is_name_exc, -ev_meth])
  simp only [List.map_cons, List.map_nil, List.filter_cons, List.filter_nil, Bool.false_eq_true, if_false] at q
  have k2 : (eMeth "Trust" "is_name" 2 f_Trust_is_name (eVar 1) (aCons (eVar 6) aNil)) [some (.ref p), some (.ref t), some (.ref l), x3, x4, x5, some (.d w), some (.clos [2, 3, 4]), x8] h = .ok (.d (.bool false)) h := by simp [r.fo, ev_is_name r, hw]
  unfold zS4_1 zS4_2
  simp [allC, -ev_meth]
  rw [ev_compC, ev_seq]
  simp only [ev_var, List.getElem?_cons_zero, List.getElem?_cons_succ, out_ok, wipR, List.set, List.map_cons, List.map_nil, q, allD_nil, Option.map_some, ofOpt_some]
  simp [neNilD, k2, isNotO, bO, -ev_meth]
end
end Q

set_option Elab.async false
set_option maxRecDepth 100000
set_option linter.all false
set_option autoImplicit false
set_option maxHeartbeats 1000000
/-! K15q: the laps of seals. -/
namespace Q
open PySem PySem.Spec PyProof.Rows L2 LamX
open Classical
theorem ev_is_bool (a b : Bool) (h : AH) : f__law_is_bool [.d (.bool a), .d (.bool b)] h = .ok (.d (.bool (decide (a = b)))) h := by
  cases b <;> simp [f__law_is_bool, b__law_is_bool, isO, bO]
section
variable {h : AH} {p q t l z n : Nat} {cs sl Z : List PyData} {x3 x4 x5 x6 x7 x8 : Option W}
theorem ev_z21 (r : TpAt h p q n) (hn : n + 10 ≤ 1000000000) : ∃ w h', zS2_1 [some (.ref p), some (.ref t), some (.ref l), x3, x4, x5, x6, x7, x8] h = .nx [some (.ref p), some (.ref t), some (.ref l), x3, x4, some (.d w), x6, x7, x8] h' ∧ isWho w = true ∧ TpAt h' p q (n + 2) ∧ Same [p, q] h h' := by
  obtain ⟨o, h1, e1, m, r1, s1⟩ := ev_pick r (by omega) (ds := [.str (Str.ofString "owner"), .str (Str.ofString "member")]) (by simp) (by simp)
  obtain ⟨v, h2, e2, v0, v1, r2, s2⟩ := ev_draw r1 (by omega) (size := 4) (by omega) (by decide)
  refine ⟨.tuple [o, .int v], h2, ?_, ?_, r2, s1.trans s2⟩
  · simp [zS2_1, e1, e2]
  · have v2 : v < 1000000000000000000 := by omega
    simp only [List.mem_cons, List.not_mem_nil, or_false] at m
    rcases m with rfl | rfl <;> simp [isWho, isNum, v0, v2]
theorem ev_z22 (r : TpAt h p q n) (hn : n + 10 ≤ 1000000000) (hl : h.f l = some (.lst (cs.map .d))) (c0 : 0 < cs.length) (c1 : cs.length ≤ 1000) : ∃ w h', zS2_2 [some (.ref p), some (.ref t), some (.ref l), x3, x4, x5, x6, x7, x8] h = .nx [some (.ref p), some (.ref t), some (.ref l), x3, x4, x5, some (.d w), x7, x8] h' ∧ isNm cs.length w = true ∧ TpAt h' p q (n + 1) ∧ Same [p, q] h h' := by
  have ln : lenO [.ref l] h = some (.d (.int cs.length)) := by simp [lenO, lenL, hl]
  obtain ⟨v, h2, e2, v0, v1, r2, s2⟩ := ev_draw r (by omega) (size := (cs.length : Int)) (by omega) (by omega)
  refine ⟨nm v.toNat, h2, ?_, isNm_nm (by omega) (by omega), r2, s2⟩
  have : (v.toNat : Int) = v := by omega
  simp [zS2_2, ln, e2, nm, this]
theorem ev_z23 (r : TpAt h p q n) (hn : n + 10 ≤ 1000000000) (rt : TrAt h t cs sl) {w m : PyData} (hw : isWho w = true) (hm : isNm cs.length m = true) (hz : h.f z = some (.lst (Z.map .d))) (lz : z < h.n ∧ t + 3 < z) (d : z ≠ p ∧ z ≠ q ∧ p < t ∧ q < t) (iff : ∀ y, y ∈ sl ↔ y ∈ Z) (lZ : Z.length ≤ 100 ∧ sl.length ≤ 100) : ∃ (h' : AH) (sl' Z' : List PyData), zS2_3 [some (.ref p), some (.ref t), some (.ref l), some (.ref z), x4, some (.d w), some (.d m), x7, x8] h = .nx [some (.ref p), some (.ref t), some (.ref l), some (.ref z), x4, some (.d w), some (.d m), x7, x8] h' ∧ TrAt h' t cs sl' ∧ h'.f z = some (.lst (Z'.map .d)) ∧ (∀ y, y ∈ sl' ↔ y ∈ Z') ∧ Z'.length ≤ Z.length + 1 ∧ sl'.length ≤ sl.length + 1 ∧ TpAt h' p q (n + 1) ∧ Same [p, q, t + 3, z] h h' := by
  obtain ⟨v, h1, e1, v0, v1, r1, s1⟩ := ev_draw r (by omega) (size := 2) (by omega) (by decide)
  have rt1 := rt.same s1 (by simp; omega)
  have hz1 : h1.f z = some (.lst (Z.map .d)) := by rw [s1.2 z lz.1 (by simp [d]), hz]
  have n1 : h.n ≤ h1.n := s1.1
  by_cases e : v = 0
  · obtain ⟨h2, sl', e2, rt2, s2, i2, l2⟩ := ev_seal rt1 hw hm (by omega)
    have hz2 : h2.f z = some (.lst (Z.map .d)) := by rw [s2.2 z (by omega) (by simp; omega), hz1]
    have n2 : h1.n ≤ h2.n := s2.1
    have s3 : Same [z] h2 (h2.set z (.lst ((Z ++ [PyData.tuple [w, m]]).map .d))) := (Same.refl _ h2).set (by simp)
    refine ⟨h2.set z (.lst ((Z ++ [PyData.tuple [w, m]]).map .d)), sl', Z ++ [PyData.tuple [w, m]], ?_, rt2.same s3 (by simp; omega), by simp, ?_, by simp, l2, ?_, ((s1.mono (by simp)).trans (s2.mono (by simp))).trans (s3.mono (by simp))⟩
    · have lz2 : Z.length < 1000000 := by omega
      simp [zS2_3, e1, e, rt1.fo, e2, isNotO, isN, bO, lstAt, hz2, appendM, lz2]
    · intro y
      rw [i2, iff]
      simp [or_comm]
    · exact (r1.same s2 (by simp; omega)).same s3 (by simp; omega)
  · refine ⟨h1, sl, Z, ?_, rt1, hz1, iff, by omega, by omega, r1, s1.mono (by simp)⟩
    simp [zS2_3, e1, e]
theorem ev_z24 (rt : TrAt h t cs sl) {w m : PyData} (hw : isWho w = true) (hm : isNm cs.length m = true) (hz : h.f z = some (.lst (Z.map .d))) (iff : ∀ y, y ∈ sl ↔ y ∈ Z) : zS2_4 [some (.ref p), some (.ref t), some (.ref l), some (.ref z), x4, some (.d w), some (.d m), x7, x8] h = .nx [some (.ref p), some (.ref t), some (.ref l), some (.ref z), x4, some (.d w), some (.d m), x7, x8] h := by
  have kp : ck 3 (.tuple [w, m]) = true := by
    rw [ck_tup]
    simp [ck_mono (isWho_ck hw) (show 1 ≤ 2 by omega), ck_mono (isNm_ck hm) (show 1 ≤ 2 by omega)]
  have i := in_line (n := 3) (m := 3) (by omega) kp (fun y hy => rt.ks y ((iff y).mpr hy)) hz
  have se := ev_sealed rt hw hm
  have : decide (PyData.tuple [w, m] ∈ sl) = decide (PyData.tuple [w, m] ∈ Z) := decide_eq_decide.mpr (iff _)
  rw [this] at se
  simp [zS2_4, rt.fo, se, inO, i, bO, ev_is_bool]
end
end Q

set_option Elab.async false
set_option maxRecDepth 100000
set_option linter.all false
set_option autoImplicit false
set_option maxHeartbeats 1000000
/-! K15r: _law_seals_right. -/
namespace Q
open PySem PySem.Spec PyProof.Rows L2 LamX
open Classical
structure SlJ (h0 : AH) (p q t l z n : Nat) (cs : List PyData) (i : Nat) (ρ : Env') (h : AH) : Prop where
  ex : ∃ (sl Z : List PyData) (x4 x5 x6 x7 x8 : Option W), ρ = [some (.ref p), some (.ref t), some (.ref l), some (.ref z), x4, x5, x6, x7, x8] ∧ h.f z = some (.lst (Z.map .d)) ∧ TrAt h t cs sl ∧ (∀ y, y ∈ sl ↔ y ∈ Z) ∧ Z.length ≤ i ∧ sl.length ≤ i
  hl : h.f l = some (.lst (cs.map .d))
  tp : TpAt h p q (n + i * 4)
  lt : z < h.n
  sm : Same [p, q, t + 3, z] h0 h
theorem ev_seals {h : AH} {p q t l n : Nat} {cs : List PyData} (rt : TrAt h t cs []) (rp : TpAt h p q n) (d : p < t ∧ q < t ∧ t + 3 < l ∧ l < h.n) (hl : h.f l = some (.lst (cs.map .d))) (c0 : 0 < cs.length) (c1 : cs.length ≤ 1000) (hn : n + 1000 ≤ 1000000000) : ∃ h' sl, f__law_seals_right [.ref p, .ref t, .ref l] h = .ok (.d (.bool true)) h' ∧ TrAt h' t cs sl ∧ TpAt h' p q (n + 80) ∧ Same [p, q, t + 3] h h' := by
  have s0 : Same [] h (h.new (.lst [])) := (Same.refl _ h).new
  have hl0 : (h.new (.lst [])).f l = some (.lst (cs.map .d)) := by rw [s0.2 l d.2.2.2 (by simp), hl]
  have j0 : SlJ h p q t l h.n n cs 0 [some (.ref p), some (.ref t), some (.ref l), some (.ref h.n), none, none, none, none, none] (h.new (.lst [])) := ⟨⟨[], [], none, none, none, none, none, rfl, by simp, rt.same s0 (by simp), fun y => Iff.rfl, Nat.le_refl _, Nat.le_refl _⟩, hl0, by simpa using rp.same s0 (by simp), by simp, s0.mono (by simp)⟩
  obtain ⟨ρ', h', e1, j1⟩ := forL_at (chk := fun _ => True) (g := gN 4) (b := sSeq zS2_1 (sSeq zS2_2 (sSeq zS2_3 zS2_4))) (SlJ h p q t l h.n n cs) (fun _ _ _ _ => trivial) (rngW 0 20) 0 _ _ j0 (by
    intro j w hw ρ h1 ⟨⟨sl, Z, x4, x5, x6, x7, x8, eρ, hz, tr, iff, lZ, lsl⟩, hl1, tpa, lt, sm⟩
    subst eρ
    have hj : j < 20 := by
      obtain ⟨a, _⟩ := List.getElem?_eq_some_iff.mp hw
      simpa [rngW] using a
    rw [Nat.zero_add] at *
    refine ⟨_, rfl, ?_⟩
    obtain ⟨o, h2, a1, w1, tp1, m1⟩ := ev_z21 (t := t) (l := l) (x3 := some (.ref h.n)) (x4 := some w) (x5 := x5) (x6 := x6) (x7 := x7) (x8 := x8) tpa (by omega)
    have n1 : h1.n ≤ h2.n := m1.1
    have tr1 := tr.same m1 (by simp; omega)
    have hl2 : h2.f l = some (.lst (cs.map .d)) := by rw [m1.2 l (by omega) (by simp; omega), hl1]
    have hz2 : h2.f h.n = some (.lst (Z.map .d)) := by rw [m1.2 _ (by omega) (by simp; omega), hz]
    obtain ⟨m, h3, a2, w2, tp2, m2⟩ := ev_z22 (t := t) (x3 := some (.ref h.n)) (x4 := some w) (x5 := some (.d o)) (x6 := x6) (x7 := x7) (x8 := x8) tp1 (by omega) hl2 c0 c1
    have n2 : h2.n ≤ h3.n := m2.1
    have tr2 := tr1.same m2 (by simp; omega)
    have hl3 : h3.f l = some (.lst (cs.map .d)) := by rw [m2.2 l (by omega) (by simp; omega), hl2]
    have hz3 : h3.f h.n = some (.lst (Z.map .d)) := by rw [m2.2 _ (by omega) (by simp; omega), hz2]
    obtain ⟨h4, sl', Z', a3, tr3, hz4, iff', lZ', lsl', tp3, m3⟩ := ev_z23 (l := l) (x4 := some w) (x7 := x7) (x8 := x8) tp2 (by omega) tr2 w1 w2 hz3 ⟨by omega, by omega⟩ ⟨by omega, by omega, by omega, by omega⟩ iff ⟨by omega, by omega⟩
    have n3 : h3.n ≤ h4.n := m3.1
    have hl4 : h4.f l = some (.lst (cs.map .d)) := by rw [m3.2 l (by omega) (by simp; omega), hl3]
    have a4 := ev_z24 (p := p) (l := l) (x4 := some w) (x7 := x7) (x8 := x8) tr3 w1 w2 hz4 iff'
    refine ⟨_, h4, ?_, ⟨⟨sl', Z', some w, some (.d o), some (.d m), x7, x8, rfl, hz4, tr3, iff', by omega, by omega⟩, hl4, tp3.mono (by omega), by omega, ((sm.trans (m1.mono (by simp))).trans (m2.mono (by simp))).trans (m3.mono (by simp))⟩⟩
    simp only [List.set, ev_sSeq, a1, a2, a3, a4])
  have hln : (rngW 0 20).length = 20 := by simp [rngW]
  rw [hln, Nat.zero_add] at j1
  obtain ⟨⟨sl, Z, x4, x5, x6, x7, x8, eρ, hz, tr, iff, lZ, lsl⟩, hl1, tpa, lt, sm⟩ := j1
  subst eρ
  -- the faults
  obtain ⟨ρ2, h2, e2, y5, y7, rfl, rfl⟩ := forL_inv (chk := fun _ => True) (g := gN 5) (b := sSeq zS3_1 zS3_2) (fun ρ h2 => ∃ y5 y7, ρ = [some (.ref p), some (.ref t), some (.ref l), some (.ref h.n), x4, y5, x6, y7, x8] ∧ h2 = h') (fun _ _ _ => trivial) (whos.map .d) [some (.ref p), some (.ref t), some (.ref l), some (.ref h.n), x4, x5, x6, x7, x8] h' ⟨x5, x7, rfl, rfl⟩ (by
    intro x hx ρ h3 ⟨y5, y7, e, e'⟩
    subst e
    subst e'
    obtain ⟨w, hw, rfl⟩ := List.mem_map.mp hx
    exact ⟨_, rfl, _, _, ev_z3 tr c0 (whos_bad w hw), _, _, rfl, rfl⟩)
  obtain ⟨ρ3, h3, e3, y6, y8, rfl, rfl⟩ := forL_inv (chk := fun _ => True) (g := gN 6) (b := sSeq zS4_1 zS4_2) (fun ρ h3 => ∃ y6 y8, ρ = [some (.ref p), some (.ref t), some (.ref l), some (.ref h.n), x4, y5, y6, y8, x8] ∧ h3 = h2) (fun _ _ _ => trivial) ((nmsBad cs.length).map .d) [some (.ref p), some (.ref t), some (.ref l), some (.ref h.n), x4, y5, x6, y7, x8] h2 ⟨x6, y7, rfl, rfl⟩ (by
    intro x hx ρ h3 ⟨y5, y7, e, e'⟩
    subst e
    subst e'
    obtain ⟨w, hw, rfl⟩ := List.mem_map.mp hx
    exact ⟨_, rfl, _, _, ev_z4 tr (nmsBad_bad cs.length w hw), _, _, rfl, rfl⟩)
  have ln : lenO [.ref l] h3 = some (.d (.int cs.length)) := by simp [lenO, lenL, hl1]
  have q2 : zS2 [some (.ref p), some (.ref t), some (.ref l), some (.ref h.n), none, none, none, none, none] (h.new (.lst [])) = .nx [some (.ref p), some (.ref t), some (.ref l), some (.ref h.n), x4, x5, x6, x7, x8] h3 := by
    unfold zS2
    rw [ev_for, ev_range]
    simp only [ev_c, out_ok]
    rw [if_pos (by omega)]
    simp only [st_ok]
    rw [show Int.toNat 20 = 20 from rfl, e1]
  have q3 : zS3 [some (.ref p), some (.ref t), some (.ref l), some (.ref h.n), x4, x5, x6, x7, x8] h3 = .nx [some (.ref p), some (.ref t), some (.ref l), some (.ref h.n), x4, y5, x6, y7, x8] h3 := by
    unfold zS3
    rw [ev_for]
    rw [← e2]
    simp [whos, -for_list, -ev_sSeq]
  have q4 : zS4 [some (.ref p), some (.ref t), some (.ref l), some (.ref h.n), x4, y5, x6, y7, x8] h3 = .nx [some (.ref p), some (.ref t), some (.ref l), some (.ref h.n), x4, y5, y6, y8, x8] h3 := by
    unfold zS4
    rw [ev_for]
    rw [← e3]
    simp [nmsBad, nm, ln, -for_list, -ev_sSeq]
  refine ⟨h3, sl, ?_, tr, tpa.mono (by omega), sm.1, fun k hk hs => sm.2 k hk (by simp at hs ⊢; omega)⟩
  unfold f__law_seals_right
  rw [b_zS_eq]
  simp only [mkFnL, List.map, List.length, List.replicate, List.cons_append, List.nil_append, Nat.reduceSub, Nat.reduceAdd]
  have q1 : zS1 [some (.ref p), some (.ref t), some (.ref l), none, none, none, none, none, none] h = .nx [some (.ref p), some (.ref t), some (.ref l), some (.ref h.n), none, none, none, none, none] (h.new (.lst [])) := by
    simp [zS1]
  simp only [ev_sSeq, q1, q2, q3, q4]
  rfl
end Q

set_option Elab.async false
set_option maxRecDepth 100000
set_option linter.all false
set_option autoImplicit false
set_option maxHeartbeats 1000000
/-! K15t: law. -/
namespace Q
open PySem PySem.Spec PyProof.Rows L2 LamX
open Classical
noncomputable def vS1 : SemS := (sSet 1 (eCall 1 f__law_begun (aCons (eVar 0) aNil)))
noncomputable def vS2_1 : SemS := (sSet 3 (eMake "Trust" 1 f_Trust___init__ aNil))
noncomputable def vS2_2 : SemS := (sIf (tOrS (tOf (eOp neO (eMeth "Trust" "size" 1 f_Trust_size (eVar 3) aNil) (eC (.int 0)))) (tOf (eOp isNotO (eMeth "Trust" "is_name" 2 f_Trust_is_name (eVar 3) (aCons (eTup (aCons (eC (.str "name")) (aCons (eC (.int 0)) aNil))) aNil)) (eC (.bool false))))) (sRet (eC (.bool false))) sNil)
noncomputable def vS2_3 : SemS := (sSet 4 (eCall 2 f__law_named (aCons (eVar 1) (aCons (eVar 3) aNil))))
noncomputable def vS2_4 : SemS := (sIf (tOrS (tOf (eOp isO (eVar 4) (eC .none))) (tNotS (tOf (eCall 3 f__law_seals_right (aCons (eVar 1) (aCons (eVar 3) (aCons (eVar 4) aNil))))))) (sRet (eC (.bool false))) sNil)
noncomputable def vS2_5 : SemS := (sFor (iEnumL (eVar 4)) (gT 2 (gsCons (gN 5) (gsCons (gN 6) gsNil))) (sIf (tOrS (tOf (eOp neO (eMeth "Trust" "content" 2 f_Trust_content (eVar 3) (aCons (eTup (aCons (eC (.str "name")) (aCons (eVar 5) aNil))) aNil)) (eVar 6))) (tOrS (tOf (eOp isNotO (eMeth "Trust" "is_name" 2 f_Trust_is_name (eVar 3) (aCons (eTup (aCons (eC (.str "name")) (aCons (eVar 5) aNil))) aNil)) (eC (.bool true)))) (tOf (eOp neO (eMeth "Trust" "name" 2 f_Trust_name (eVar 3) (aCons (eVar 6) aNil)) (eTup (aCons (eC (.str "name")) (aCons (eVar 5) aNil))))))) (sRet (eC (.bool false))) sNil))
noncomputable def vS2 : SemS := (sFor (iRange1 (eOp addO (eC (.int 4)) (eApp minO (aCons (eApp lenO (aCons (eVar 0) aNil)) (aCons (eC (.int 7)) aNil))))) (gN 2) (sSeq vS2_1 (sSeq vS2_2 (sSeq vS2_3 (sSeq vS2_4 vS2_5)))))
noncomputable def vS3 : SemS := (sSet 3 (eMake "Trust" 1 f_Trust___init__ aNil))
noncomputable def vS4 : SemS := (sSet 7 (eMeth "Trust" "name" 2 f_Trust_name (eVar 3) (aCons (eTup (aCons (eC (.str "name")) (aCons (eC (.str "x")) aNil))) aNil)))
noncomputable def vS5 : SemS := (sRet (eAnd (eOp eqO (eVar 7) (eTup (aCons (eC (.str "name")) (aCons (eC (.int 0)) aNil)))) (eAnd (eOp eqO (eMeth "Trust" "name" 2 f_Trust_name (eVar 3) (aCons (eTup (aCons (eC (.str "name")) (aCons (eC (.int 5)) (aCons (eC (.int 5)) aNil)))) aNil)) (eTup (aCons (eC (.str "name")) (aCons (eC (.int 1)) aNil)))) (eAnd (eOp eqO (eMeth "Trust" "content" 2 f_Trust_content (eVar 3) (aCons (eVar 7) aNil)) (eTup (aCons (eC (.str "name")) (aCons (eC (.str "x")) aNil)))) (eNot (eUn (isiO (isiC CLS "PurseError")) (eVar 1)))))))
theorem b_vS_eq : b_law = (sSeq vS1 (sSeq vS2 (sSeq vS3 (sSeq vS4 vS5)))) := rfl

/-- a method's call, its def kept shut -/
theorem meth_ev {c n : String} {np : Nat} {fn : Fn} {m : SemE} {ms : SemA} {ρ : Env'} {h h1 h2 : AH} {i : Nat} {fs : List (String × W)} {xs : List W} {o : Out W} (e1 : m ρ h = .ok (.ref i) h1) (e2 : h1.f i = some (.ins c fs)) (e3 : noS n fs = true) (e4 : ms ρ h1 = .ok xs h2) (e5 : xs.all W.flat = true) (e6 : xs.length + 1 = np) (e7 : fn (.ref i :: xs) h2 = o) : eMeth c n np fn m ms ρ h = o := by
  rw [ev_meth, e1]
  simp only [out_ok, e2, e3, e4, e5, e6, and_self, if_true, e7]
theorem enW_data : ∀ (ds : List PyData) (n : Nat), ∃ us, enW n (ds.map .d) = some us
  | [], n => ⟨[], rfl⟩
  | d :: ds, n => by
    obtain ⟨us, e⟩ := enW_data ds (n + 1)
    exact ⟨_, by simp [enW, e]; rfl⟩
theorem ev_enum {m : SemE} {ρ : Env'} {h : AH} : iEnumL m ρ h = (m ρ h).bind fun x h1 => match x with
  | .d (.list ds) => match enW 0 (ds.map .d) with
    | some us => if us.length ≤ 1000000 then (.ok (us, (fun _ => True : AH → Prop)) h1 : Out (List W × (AH → Prop))) else .bad
    | none => .bad
  | .ref i => match h1.f i with
    | some (.lst ws) => match enW 0 ws with
      | some us => if us.length ≤ 1000000 then .ok (us, (fun h => h.f i = some (.lst ws) : AH → Prop)) h1 else .bad
      | none => .bad
    | _ => .bad
  | _ => .bad := rfl
section
variable {h : AH} {p q t l n : Nat} {cs sl : List PyData} {x0 x1 : W} {x2 x3 x4 x5 x6 x7 : Option W}
theorem ev_new (hp : TpAt h p q n) : ∃ t h', vS2_1 [some x0, some (.ref p), x2, x3, x4, x5, x6, x7] h = .nx [some x0, some (.ref p), x2, some (.ref t), x4, x5, x6, x7] h' ∧ TrAt h' t [] [] ∧ Same [] h h' ∧ h.n ≤ t := by
  have s1 : Same [] h (h.new (.ins "Trust" [])) := (Same.refl _ h).new
  obtain ⟨h', e, r, s⟩ := ev_init (h := h.new (.ins "Trust" [])) (t := h.n) (by simp) rfl
  refine ⟨h.n, h', by simp [vS2_1, e], r, ⟨Nat.le_trans s1.1 s.1, fun k hk _ => ?_⟩, Nat.le_refl _⟩
  rw [s.2 k (by simp; omega) (by simp; omega), s1.2 k hk (by simp)]
theorem ev_v22 (r : TrAt h t [] []) : vS2_2 [some x0, some x1, x2, some (.ref t), x4, x5, x6, x7] h = .nx [some x0, some x1, x2, some (.ref t), x4, x5, x6, x7] h := by
  have e : isNm 0 (.tuple [.str (Str.ofString "name"), .int 0]) = false := by
    have := nmsBad_bad 0 (nm 0) (by simp [nmsBad])
    exact this
  have e2 := ev_is_name r (.tuple [.str (Str.ofString "name"), .int 0])
  rw [List.length_nil, e] at e2
  simp [vS2_2, r.fo, ev_size r, e2, isNotO, bO]
/-- what is named stands for itself -/
theorem ev_v25 (r : TrAt h t cs sl) (lo : LineOk cs) (hl : h.f l = some (.lst (cs.map .d))) (ll : t + 3 < l ∧ l < h.n) (hc : cs.length ≤ 1000) : ∃ y5 y6 h', vS2_5 [some x0, some x1, x2, some (.ref t), some (.ref l), x5, x6, x7] h = .nx [some x0, some x1, x2, some (.ref t), some (.ref l), y5, y6, x7] h' ∧ Same [t + 1, t + 2] h h' := by
  obtain ⟨us, eu⟩ := enW_data cs 0
  obtain ⟨ul, ug⟩ := enW_get eu
  rw [List.length_map] at ul
  obtain ⟨ρ', h', e1, y5, y6, rfl, _, _, s, _⟩ := forL_at (chk := fun h => h.f l = some (.lst (cs.map .d))) (g := gT 2 (gsCons (gN 5) (gsCons (gN 6) gsNil))) (b := sIf (tOrS (tOf (eOp neO (eMeth "Trust" "content" 2 f_Trust_content (eVar 3) (aCons (eTup (aCons (eC (.str "name")) (aCons (eVar 5) aNil))) aNil)) (eVar 6))) (tOrS (tOf (eOp isNotO (eMeth "Trust" "is_name" 2 f_Trust_is_name (eVar 3) (aCons (eTup (aCons (eC (.str "name")) (aCons (eVar 5) aNil))) aNil)) (eC (.bool true)))) (tOf (eOp neO (eMeth "Trust" "name" 2 f_Trust_name (eVar 3) (aCons (eVar 6) aNil)) (eTup (aCons (eC (.str "name")) (aCons (eVar 5) aNil))))))) (sRet (eC (.bool false))) sNil)
    (fun _ ρ h' => ∃ y5 y6, ρ = [some x0, some x1, x2, some (.ref t), some (.ref l), y5, y6, x7] ∧ TrAt h' t cs sl ∧ h'.f l = some (.lst (cs.map .d)) ∧ Same [t + 1, t + 2] h h' ∧ l < h'.n) (fun _ _ _ ⟨_, _, _, _, z, _⟩ => z) us 0 [some x0, some x1, x2, some (.ref t), some (.ref l), x5, x6, x7] h ⟨x5, x6, rfl, r, hl, Same.refl _ h, ll.2⟩ (by
      intro j w hw ρ h1 ⟨y5, y6, eρ, r1, hl1, s1, ll1⟩
      subst eρ
      obtain ⟨v, hv, rfl⟩ := ug j w hw
      rw [List.getElem?_map, Option.map_eq_some_iff] at hv
      obtain ⟨x, hx, hv⟩ := hv
      have hv : x = v := by simpa using hv
      subst hv
      have mx : x ∈ cs := List.mem_of_getElem? hx
      obtain ⟨g, c⟩ := lo j x hx
      have hj : j < cs.length := (List.getElem?_eq_some_iff.mp hx).1
      have sz0 : sz x ≤ 1000000 := by
        have := c.s
        have E3 : E5 3 = 625 := rfl
        omega
      have c1 := ev_content r1 hx (by omega)
      have c2 := ev_is_name r1 (nm j)
      rw [isNm_nm hj (by omega)] at c2
      obtain ⟨h2, cs', jx, c3, r2, s2, e2, e3⟩ := ev_name r1 sz0 (pAll_mono (goodIt_mono (by omega)) x g) (ck_mono c.k (by omega)) (by omega)
      rw [if_pos mx] at e2
      subst e2
      have jj : jx = j := by
        have a := idx_get c.k (fun y hy => (lo.mem hy).k) e3
        have hjx : jx < cs'.length := (List.getElem?_eq_some_iff.mp a).1
        exact (List.getElem?_inj hjx r.nd).mp (a.trans hx.symm)
      subst jj
      have ne1 : neO (.d x) (.d x) h1 = some (.d (.bool false)) := by
        rw [neD_ev _ _ _ (ck_okD c.k (by omega)) (ck_okD c.k (by omega)), (ck_eqv 4 _ _ c.k 4 c.k).mpr rfl]
        rfl
      have knm : ck 1 (nm jx) = true := by
        rw [nm, ck_tup]
        simp [ck_name, ck_int]
      have ne2 : neO (.d (nm jx)) (.d (nm jx)) h2 = some (.d (.bool false)) := by
        rw [neD_ev _ _ _ (ck_okD knm (by omega)) (ck_okD knm (by omega)), (ck_eqv 1 _ _ knm 1 knm).mpr rfl]
        rfl
      have hl2 : h2.f l = some (.lst (cs'.map .d)) := by rw [s2.2 l ll1 (by simp; omega), hl1]
      refine ⟨_, by simp [gT, gsCons, gsNil]; rfl, _, h2, ?_, some (.d (.int (jx : Int))), some (.d x), rfl, r2, hl2, s1.trans s2, Nat.lt_of_lt_of_le ll1 s2.1⟩
      rw [nm] at c1 c2 c3 ne2
      have k0 : ((0 + jx : Nat) : Int) = (jx : Int) := by omega
      have n1 : noS "content" [("contents", W.ref (t + 1)), ("names", .ref (t + 2)), ("seals", .ref (t + 3))] = true := by simp
      have n2 : noS "is_name" [("contents", W.ref (t + 1)), ("names", .ref (t + 2)), ("seals", .ref (t + 3))] = true := by simp
      have n3 : noS "name" [("contents", W.ref (t + 1)), ("names", .ref (t + 2)), ("seals", .ref (t + 3))] = true := by simp
      have ta : (eTup (aCons (eC (.str "name")) (aCons (eVar 5) aNil))) [some x0, some x1, x2, some (.ref t), some (.ref l), some (.d (.int (jx : Int))), some (.d x), x7] h1 = .ok (.d (.tuple [.str (Str.ofString "name"), .int (jx : Int)])) h1 := by simp
      have tb : (eTup (aCons (eC (.str "name")) (aCons (eVar 5) aNil))) [some x0, some x1, x2, some (.ref t), some (.ref l), some (.d (.int (jx : Int))), some (.d x), x7] h2 = .ok (.d (.tuple [.str (Str.ofString "name"), .int (jx : Int)])) h2 := by simp
      have ar : (aCons (eTup (aCons (eC (.str "name")) (aCons (eVar 5) aNil))) aNil) [some x0, some x1, x2, some (.ref t), some (.ref l), some (.d (.int (jx : Int))), some (.d x), x7] h1 = .ok [.d (.tuple [.str (Str.ofString "name"), .int (jx : Int)])] h1 := by
        rw [ev_cons, ta]
        rfl
      have m1 := meth_ev (fn := f_Trust_content) (m := eVar 3) (np := 2) (ρ := [some x0, some x1, x2, some (.ref t), some (.ref l), some (.d (.int (jx : Int))), some (.d x), x7]) (h := h1) rfl r1.fo n1 ar rfl rfl c1
      have m2 := meth_ev (fn := f_Trust_is_name) (m := eVar 3) (np := 2) (ρ := [some x0, some x1, x2, some (.ref t), some (.ref l), some (.d (.int (jx : Int))), some (.d x), x7]) (h := h1) rfl r1.fo n2 ar rfl rfl c2
      have m3 := meth_ev (fn := f_Trust_name) (m := eVar 3) (ms := aCons (eVar 6) aNil) (np := 2) (ρ := [some x0, some x1, x2, some (.ref t), some (.ref l), some (.d (.int (jx : Int))), some (.d x), x7]) (h := h1) rfl r1.fo n3 rfl rfl rfl c3
      have v6 : (eVar 6) [some x0, some x1, x2, some (.ref t), some (.ref l), some (.d (.int (jx : Int))), some (.d x), x7] h1 = .ok (.d x) h1 := rfl
      have bt : isNotO (.d (.bool true)) (.d (.bool true)) h1 = some (.d (.bool false)) := rfl
      rw [ev_sIf, ev_tOr, ev_tOf, ev_op, m1, out_ok, v6, out_ok, ne1]
      simp only [ofOpt_some, out_ok, Bool.false_eq_true, if_false]
      rw [ev_tOr, ev_tOf, ev_op, m2, out_ok, ev_c, out_ok, bt]
      simp only [ofOpt_some, out_ok, Bool.false_eq_true, if_false]
      rw [ev_tOf, ev_op, m3, out_ok, tb, out_ok, ne2]
      rfl)
  refine ⟨y5, y6, h', ?_, s⟩
  unfold vS2_5
  rw [ev_for, ev_enum]
  simp only [ev_var, List.getElem?_cons_zero, List.getElem?_cons_succ, out_ok, hl, eu]
  rw [if_pos (by omega)]
  exact e1
end
end Q

set_option Elab.async false
set_option maxRecDepth 100000
set_option linter.all false
set_option autoImplicit false
set_option maxHeartbeats 1000000
/-! K15u: law. -/
namespace Q
open PySem PySem.Spec PyProof.Rows L2 LamX
open Classical
structure LwJ (x0 : W) (p q : Nat) (i : Nat) (ρ : Env') (h : AH) : Prop where
  ex : ∃ (x2 x3 x4 x5 x6 : Option W), ρ = [some x0, some (.ref p), x2, x3, x4, x5, x6, none]
  tp : TpAt h p q (i * 100000)
theorem ev_lap {h : AH} {p q i : Nat} {x0 w : W} {x3 x4 x5 x6 : Option W} (tp : TpAt h p q (i * 100000)) (hi : i ≤ 100) : ∃ ρ' h', (sSeq vS2_1 (sSeq vS2_2 (sSeq vS2_3 (sSeq vS2_4 vS2_5)))) [some x0, some (.ref p), some w, x3, x4, x5, x6, none] h = .nx ρ' h' ∧ LwJ x0 p q (i + 1) ρ' h' := by
  obtain ⟨t, h1, a1, r1, s1, lt⟩ := ev_new (x0 := x0) (x2 := some w) (x3 := x3) (x4 := x4) (x5 := x5) (x6 := x6) (x7 := none) tp
  have n1 : h.n ≤ h1.n := s1.1
  have tp1 := tp.same s1 (by simp)
  have a2 := ev_v22 (x0 := x0) (x1 := .ref p) (x2 := some w) (x4 := x4) (x5 := x5) (x6 := x6) (x7 := none) r1
  have pt : p < t ∧ q < t := by have := tp.lt; omega
  obtain ⟨l, h2, cs, e3, hl, ln, ll, r2, lo, c0, c1, tp2, s2⟩ := ev_named r1 tp1 pt (by omega)
  have n2 : h1.n ≤ h2.n := s2.1
  have tl : t + 3 < l := by have := r1.lt; omega
  obtain ⟨h3, sl, e4, r3, tp3, s3⟩ := ev_seals r2 tp2 ⟨pt.1, pt.2, tl, ll⟩ hl c0 (by omega) (by omega)
  have n3 : h2.n ≤ h3.n := s3.1
  have hl3 : h3.f l = some (.lst (cs.map .d)) := by rw [s3.2 l ll (by simp; omega), hl]
  have a3 : vS2_3 [some x0, some (.ref p), some w, some (.ref t), x4, x5, x6, none] h1 = .nx [some x0, some (.ref p), some w, some (.ref t), some (.ref l), x5, x6, none] h2 := by simp [vS2_3, e3]
  have a4 : vS2_4 [some x0, some (.ref p), some w, some (.ref t), some (.ref l), x5, x6, none] h2 = .nx [some x0, some (.ref p), some w, some (.ref t), some (.ref l), x5, x6, none] h3 := by
    have is : isO (.ref l) (.d .none) h2 = some (.d (.bool false)) := rfl
    simp [vS2_4, is, e4]
  obtain ⟨y5, y6, h4, a5, s4⟩ := ev_v25 (x0 := x0) (x1 := .ref p) (x2 := some w) (x5 := x5) (x6 := x6) (x7 := none) r3 lo hl3 ⟨tl, by omega⟩ (by omega)
  refine ⟨[some x0, some (.ref p), some w, some (.ref t), some (.ref l), y5, y6, none], h4, ?_, ⟨⟨some w, some (.ref t), some (.ref l), y5, y6, rfl⟩, ?_⟩⟩
  · simp only [ev_sSeq, a1, a2, a3, a4, a5]
  · exact (tp3.same s4 (by simp; omega)).mono (by rw [Nat.succ_mul]; omega)
theorem ints_len {h : AH} {x : W} {ns : List Int} (hi : IsInts h x ns) : lenO [x] h = some (.d (.int ns.length)) := by
  rcases hi with rfl | ⟨i, rfl, _, hf⟩
  · simp
  · simp [lenO, lenL, hf]
theorem law15 (ns : List Int) (hl : ns.length ≤ 63) (h : AH) (x : W) (hi : IsInts h x ns) : ∃ h', f_law [x] h = .ok (.d (.bool true)) h' := by
  have fx : x.flat = true := by
    rcases hi with rfl | ⟨i, rfl, _⟩ <;> rfl
  obtain ⟨p, q, h1, e1, tp1, s1, _, _⟩ := ev_begun hi fx
  have ln := ints_len (hi.same s1)
  let m : Int := 4 + (if (7 : Int) < (ns.length : Int) then (7 : Int) else (ns.length : Int))
  have m0 : 0 ≤ m ∧ m ≤ 11 := by
    show 0 ≤ 4 + (if (7 : Int) < ns.length then (7 : Int) else ns.length) ∧ 4 + (if (7 : Int) < ns.length then (7 : Int) else ns.length) ≤ 11
    split <;> omega
  obtain ⟨ρ2, h2, e2, ⟨x2, x3, x4, x5, x6, rfl⟩, tp2⟩ := forL_at (chk := fun _ => True) (g := gN 2) (b := sSeq vS2_1 (sSeq vS2_2 (sSeq vS2_3 (sSeq vS2_4 vS2_5)))) (LwJ x p q) (fun _ _ _ _ => trivial) (rngW 0 m.toNat) 0 [some x, some (.ref p), none, none, none, none, none, none] h1 ⟨⟨none, none, none, none, none, rfl⟩, by simpa using tp1⟩ (by
    intro j w hw ρ h3 ⟨⟨x2, x3, x4, x5, x6, eρ⟩, tp⟩
    subst eρ
    have hj : j < m.toNat := by
      obtain ⟨a, _⟩ := List.getElem?_eq_some_iff.mp hw
      simpa [rngW] using a
    rw [Nat.zero_add] at *
    obtain ⟨ρ', h', a, b⟩ := ev_lap (w := w) (x3 := x3) (x4 := x4) (x5 := x5) (x6 := x6) tp (by omega)
    exact ⟨_, rfl, ρ', h', a, b⟩)
  have q1 : vS1 [some x, none, none, none, none, none, none, none] h = .nx [some x, some (.ref p), none, none, none, none, none, none] h1 := by simp [vS1, fx, e1]
  have q2 : vS2 [some x, some (.ref p), none, none, none, none, none, none] h1 = .nx [some x, some (.ref p), x2, x3, x4, x5, x6, none] h2 := by
    unfold vS2
    have mi : minO [.d (.int ns.length), .d (.int 7)] h1 = some (.d (.int (if (7 : Int) < ns.length then 7 else ns.length))) := rfl
    rw [ev_for, ev_range]
    have k : (eOp addO (eC (.int 4)) (eApp minO (aCons (eApp lenO (aCons (eVar 0) aNil)) (aCons (eC (.int 7)) aNil)))) [some x, some (.ref p), none, none, none, none, none, none] h1 = .ok (.d (.int m)) h1 := by
      simp only [ev_op, ev_c, out_ok, ev_app, ev_cons, ev_var, List.getElem?_cons_zero, ev_nil, ln, ofOpt_some, mi, add_ev]
      rfl
    rw [k]
    simp only [out_ok]
    rw [if_pos ⟨by omega, by omega⟩]
    exact e2
  obtain ⟨t, h3, q3, r3, s3, lt⟩ := ev_new (x0 := x) (x2 := x2) (x3 := x3) (x4 := x4) (x5 := x5) (x6 := x6) (x7 := none) tp2
  have g1 : pAll (goodIt 0) (.tuple [.str (Str.ofString "name"), .str (Str.ofString "x")]) = true := by
    have nf : nameForm (.tuple [.str (Str.ofString "name"), .str (Str.ofString "x")]) = false := by simp [nameForm, isNum]
    rw [pAll, nf]
    simp only [pAlls]
    rw [show pAll (goodIt 0) (.str (Str.ofString "name")) = true by rw [pAll]; rfl, show pAll (goodIt 0) (.str (Str.ofString "x")) = true by rw [pAll]; rfl]
    rfl
  have k1 : ck 6 (.tuple [.str (Str.ofString "name"), .str (Str.ofString "x")]) = true := by
    rw [ck_tup]
    simp [ck_name, ck_x]
  obtain ⟨h4, cs1, j1, q4, r4, s4, c1, i1⟩ := ev_name r3 (x := .tuple [.str (Str.ofString "name"), .str (Str.ofString "x")]) (by rw [sz_tup, szs_cons, szs_cons, szs_nil, sz_str, sz_str]; omega) g1 k1 (by simp)
  rw [if_neg (by simp), List.nil_append] at c1
  subst c1
  have j1e : j1 = 0 := by
    simp only [idxD] at i1
    rw [if_pos ((ck_eqv 6 _ _ k1 6 k1).mpr rfl)] at i1
    exact (Option.some.inj i1).symm
  subst j1e
  have g2 : pAll (goodIt 1) (.tuple [.str (Str.ofString "name"), .int 5, .int 5]) = true := by
    have nf : nameForm (.tuple [.str (Str.ofString "name"), .int 5, .int 5]) = false := by simp [nameForm]
    rw [pAll, nf]
    simp only [pAlls]
    rw [show pAll (goodIt 1) (.str (Str.ofString "name")) = true by rw [pAll]; rfl, show pAll (goodIt 1) (.int 5) = true by rw [pAll]; rfl]
    rfl
  have k2 : ck 6 (.tuple [.str (Str.ofString "name"), .int 5, .int 5]) = true := by
    rw [ck_tup]
    simp [ck_name, ck_int]
  obtain ⟨h5, cs2, j2, q5, r5, s5, c2, i2⟩ := ev_name r4 (x := .tuple [.str (Str.ofString "name"), .int 5, .int 5]) (by rw [sz_tup, szs_cons, szs_cons, szs_cons, szs_nil, sz_str, sz_int]; omega) g2 k2 (by simp)
  rw [if_neg (by simp)] at c2
  subst c2
  have j2e : j2 = 1 := by
    simp only [List.cons_append, List.nil_append, idxD] at i2
    rw [if_neg (fun z => by have := (ck_eqv 6 _ _ k1 6 k2).mp z; simp at this), if_pos ((ck_eqv 6 _ _ k2 6 k2).mpr rfl)] at i2
    exact (Option.some.inj i2).symm
  subst j2e
  have q6 := ev_content r5 (i := 0) (x := .tuple [.str (Str.ofString "name"), .str (Str.ofString "x")]) rfl (by simp)
  have tp5 := ((tp2.same s3 (by simp)).same s4 (by have := tp2.lt; simp; omega)).same s5 (by have := tp2.lt; simp; omega)
  obtain ⟨⟨_, _, _, _, hp, _⟩, _, _⟩ := tp5
  have n1 : noS "content" [("contents", W.ref (t + 1)), ("names", .ref (t + 2)), ("seals", .ref (t + 3))] = true := by simp
  have n3 : noS "name" [("contents", W.ref (t + 1)), ("names", .ref (t + 2)), ("seals", .ref (t + 3))] = true := by simp
  have z4 : vS4 [some x, some (.ref p), x2, some (.ref t), x4, x5, x6, none] h3 = .nx [some x, some (.ref p), x2, some (.ref t), x4, x5, x6, some (.d (nm 0))] h4 := by
    have m1 := meth_ev (fn := f_Trust_name) (m := eVar 3) (ms := aCons (eTup (aCons (eC (.str "name")) (aCons (eC (.str "x")) aNil))) aNil) (np := 2) (ρ := [some x, some (.ref p), x2, some (.ref t), x4, x5, x6, none]) (h := h3) rfl r3.fo n3 rfl rfl rfl q4
    unfold vS4
    rw [ev_sSet, m1]
    rfl
  have z5 : vS5 [some x, some (.ref p), x2, some (.ref t), x4, x5, x6, some (.d (nm 0))] h4 = .rt (.d (.bool true)) h5 := by
    have m2 := meth_ev (fn := f_Trust_name) (m := eVar 3) (ms := aCons (eTup (aCons (eC (.str "name")) (aCons (eC (.int 5)) (aCons (eC (.int 5)) aNil)))) aNil) (np := 2) (ρ := [some x, some (.ref p), x2, some (.ref t), x4, x5, x6, some (.d (nm 0))]) (h := h4) rfl r4.fo n3 rfl rfl rfl q5
    have m3 := meth_ev (fn := f_Trust_content) (m := eVar 3) (ms := aCons (eVar 7) aNil) (np := 2) (ρ := [some x, some (.ref p), x2, some (.ref t), x4, x5, x6, some (.d (nm 0))]) (h := h5) rfl r5.fo n1 rfl rfl rfl q6
    have kn : ∀ j, ck 1 (nm j) = true := fun j => by
      rw [nm, ck_tup]
      simp [ck_name, ck_int]
    have eqs : ∀ (d : PyData) (h : AH), ck 6 d = true → eqO (.d d) (.d d) h = some (.d (.bool true)) := fun d h k => by
      rw [eqD_ev _ _ _ (ck_okD k (by omega)) (ck_okD k (by omega)), (ck_eqv 6 _ _ k 6 k).mpr rfl]
    have e0 := eqs (nm 0) h4 (ck_mono (kn 0) (by omega))
    have e1 := eqs (nm 1) h5 (ck_mono (kn 1) (by omega))
    have e2 := eqs _ h5 k1
    have ta : ∀ h : AH, (eTup (aCons (eC (.str "name")) (aCons (eC (.int 0)) aNil))) [some x, some (.ref p), x2, some (.ref t), x4, x5, x6, some (.d (nm 0))] h = .ok (.d (nm 0)) h := fun _ => rfl
    have tb : ∀ h : AH, (eTup (aCons (eC (.str "name")) (aCons (eC (.int 1)) aNil))) [some x, some (.ref p), x2, some (.ref t), x4, x5, x6, some (.d (nm 0))] h = .ok (.d (nm 1)) h := fun _ => rfl
    have tc : ∀ h : AH, (eTup (aCons (eC (.str "name")) (aCons (eC (.str "x")) aNil))) [some x, some (.ref p), x2, some (.ref t), x4, x5, x6, some (.d (nm 0))] h = .ok (.d (.tuple [.str (Str.ofString "name"), .str (Str.ofString "x")])) h := fun _ => rfl
    have v7 : (eVar 7) [some x, some (.ref p), x2, some (.ref t), x4, x5, x6, some (.d (nm 0))] h4 = .ok (.d (nm 0)) h4 := rfl
    have is : isiO (isiC CLS "PurseError") (.ref p) h5 = some (.d (.bool false)) := by simp [isiO, isiC, typW, hp, basics, bO]
    unfold vS5
    rw [ev_sRet, ev_and, ev_op, v7, out_ok, ta, out_ok, e0, ofOpt_some, out_ok]
    simp only []
    rw [ev_and, ev_op, m2, out_ok, tb, out_ok, e1, ofOpt_some, out_ok]
    simp only []
    rw [ev_and, ev_op, m3, out_ok, tc, out_ok, e2, ofOpt_some, out_ok]
    simp only []
    rw [ev_not, ev_un]
    simp [is]
  refine ⟨h5, ?_⟩
  unfold f_law
  rw [mkFn_end, b_vS_eq]
  simp only [List.map, List.length, List.replicate, List.cons_append, List.nil_append, Nat.reduceSub, Nat.reduceAdd]
  simp only [ev_sSeq, q1, q2]
  have q3' : vS3 [some x, some (.ref p), x2, x3, x4, x5, x6, none] h2 = .nx [some x, some (.ref p), x2, some (.ref t), x4, x5, x6, none] h3 := q3
  simp only [q3', z4, z5]
  rfl
end Q

set_option Elab.async false
set_option maxRecDepth 100000
set_option linter.all false
open PySem PySem.W PyProof.Rows
set_option maxHeartbeats 0 in
theorem PySem.Challenge.cw_pursespassed_k15_whole_names_contents_an_holds : PySem.Challenge.rw_pursespassed_k15_whole_names_contents_an.Holds := by
  w_on; o_law; k_head; (case hw => w_witness2)
  k_fill
  refine Q.walk_X (l := PySem.Challenge.rw_pursespassed_k15_whole_names_contents_an) (n := 63) (k := 20) (K := PySem.Challenge.cw_pursespassed_k15_whole_names_contents_an_holds.heap_39) (x := "script") rfl (by decide) rfl ⟨rfl, by decide, by decide⟩ (fun w h Y => km_in_of Y) ?F
  case F =>
    intro w mg fa h XP Y KX G hmg
    have T : Q.Txt Q.txt (PySem.Challenge.cw_pursespassed_k15_whole_names_contents_an_holds.heap_39 w.params) mg h := ⟨KX, G, by show He.obsE Q.txt.fa Q.txt.fn (PySem.Challenge.cw_pursespassed_k15_whole_names_contents_an_holds.heap_39 w.params) = He.valE Q.txt.fn; kernel_rfl, by kernel_rfl⟩
    have L : Q.Ints mg Q.intL := fun p hp => by
      simp only [Q.intL, List.mem_singleton] at hp
      subst hp
      exact Q.ints_of XP (by simp)
    have e : fa = He.ga (PySem.Challenge.cw_pursespassed_k15_whole_names_contents_an_holds.heap_39 w.params) "law" := by
      have q := hmg.symm.trans (Q.glo_law T)
      exact PySem.Value.ref.inj (Option.some.inj q)
    subst e
    exact Q.law_at T Y.2 (by kernel_rfl) (Q.end_law T L) fun ns hl _ h x hi => Q.law15 ns hl h x hi
