import PyProof.Rows.All
import Lean
import HandS.HeadHook4
import HandS.HeadEnd
import Wide.All
import OpenK.AllK
import Wide.FinOn
import KE.GoesZip
import KE.GoesEnum
import KE.GoesMore
import HandS.ForMost
import HandS.ForExc
import HandS.ExcCtx
import HandS.HotCalls
import HandS.Lambda
import HandS.IsInst
import HandS.TupAny
import HandS.Wide
import HandS.Defaults
import HandS.SortOrd
import HandS.Walk
import HandS.HeadHook1
import KE.SortData
import HandS.ExcIs
import HandS.ExcField
import HandS.Style
import HandS.TupMul
import HandS.SetFor
import HandS.Strs
import HandS.Head2
import HandS.HeadWalk
import PySem.Challenge.RW_pushgaps_k08_whole_tables_within_bounds
set_option Elab.async false
set_option linter.all false
set_option maxRecDepth 100000
set_option maxHeartbeats 1000000
/-! Pure data over the hand layer: what a piece of Python does to ints, texts, tuples, frozen lists, as a Lean function over slots. -/
namespace DL
open PySem PySem.Spec PyProof.Rows L2

/-! ### data -/
inductive D where
  | non | bl (b : Bool) | int (i : Int) | str (s : Str) | tup (xs : List D) | lst (xs : List D) | obj (a : Addr) | fn (x : Str)
instance : Inhabited D := ⟨.non⟩
mutual
def D.py : D → PyData
  | .non => .none
  | .bl b => .bool b
  | .int i => .int i
  | .str s => .str s
  | .tup xs => .tuple (pyAll xs)
  | .lst xs => .list (pyAll xs)
  | .obj _ => .dict []
  | .fn _ => .dict []
def pyAll : List D → List PyData
  | [] => []
  | x :: r => x.py :: pyAll r
end
mutual
/-- the value v stands for the datum d, by the frozen part F -/
inductive Rep (K : PySem.W.Frag) (F : Hp) : V → D → Prop
  | non : Rep K F .non .non
  | bl (b : Bool) : Rep K F (.bl b) (.bl b)
  | int (i : Int) : Rep K F (.int i) (.int i)
  | str (x : Str) : Rep K F (.str x) (.str x)
  | obj (a : Addr) : Rep K F (.ref a) (.obj a)
  | fn (x : Str) : Rep K F (.ref (He.ga K x)) (.fn x)
  | tup {a : Addr} {vs : List V} {ds : List D} : SqT K F a vs → RepAll K F vs ds → Rep K F (.ref a) (.tup ds)
  | lst {a : Addr} {vs : List V} {ds : List D} : SqL K F a vs → RepAll K F vs ds → Rep K F (.ref a) (.lst ds)
inductive RepAll (K : PySem.W.Frag) (F : Hp) : List V → List D → Prop
  | nil : RepAll K F [] []
  | cons {v : V} {vs : List V} {d : D} {ds : List D} : Rep K F v d → RepAll K F vs ds → RepAll K F (v :: vs) (d :: ds)
end
theorem sameT {K : PySem.W.Frag} {F G : Hp} {a : Addr} {xs : List V} (e : Same F G) (h : SqT K F a xs) : SqT K G a xs := by
  rcases h with (h | ⟨o, h⟩) | h
  · exact .inl (.inl (e _ _ h))
  · exact .inl (.inr ⟨o, e _ _ h⟩)
  · exact .inr h
theorem sameL {K : PySem.W.Frag} {F G : Hp} {a : Addr} {xs : List V} (e : Same F G) (h : SqL K F a xs) : SqL K G a xs := by
  rcases h with (h | ⟨o, h⟩) | h
  · exact .inl (.inl (e _ _ h))
  · exact .inl (.inr ⟨o, e _ _ h⟩)
  · exact .inr h
section
variable {K : PySem.W.Frag} {F G : Hp}
mutual
theorem Rep.mono (e : Same F G) : ∀ {d : D} {v : V}, Rep K F v d → Rep K G v d
  | .non, _, h => by cases h; exact .non
  | .bl b, _, h => by cases h; exact .bl b
  | .int i, _, h => by cases h; exact .int i
  | .str s, _, h => by cases h; exact .str s
  | .obj a, _, h => by cases h; exact .obj a
  | .fn x, _, h => by cases h; exact .fn x
  | .tup ds, _, h => by
    cases h with
    | tup h1 h2 => exact .tup (sameT e h1) (RepAll.mono e h2)
  | .lst ds, _, h => by
    cases h with
    | lst h1 h2 => exact .lst (sameL e h1) (RepAll.mono e h2)
theorem RepAll.mono (e : Same F G) : ∀ {ds : List D} {vs : List V}, RepAll K F vs ds → RepAll K G vs ds
  | [], _, h => by cases h; exact .nil
  | d :: ds, _, h => by
    cases h with
    | cons h1 h2 => exact .cons (Rep.mono e h1) (RepAll.mono e h2)
end
mutual
theorem Rep.dp : ∀ {d : D} {v : V}, Rep K F v d → d.py.canLay0 = true → Dp K F v d.py
  | .non, _, h, _ => by cases h; exact .non
  | .bl b, _, h, _ => by cases h; exact .bl b
  | .int i, _, h, _ => by cases h; exact .int i
  | .str s, _, h, _ => by cases h; exact .str s
  | .obj a, _, h, c => by
    have z : PyData.canLay0 (.dict []) = true := c
    simp [PyData.canLay0] at z
  | .fn a, _, h, c => by
    have z : PyData.canLay0 (.dict []) = true := c
    simp [PyData.canLay0] at z
  | .tup ds, _, h, c => by
    cases h with
    | tup h1 h2 =>
      have c' : PyData.canLay0 (.tuple (pyAll ds)) = true := c
      rw [PyData.canLay0] at c'
      exact .tup h1 (RepAll.dp h2 c')
  | .lst ds, _, h, c => by
    cases h with
    | lst h1 h2 =>
      have c' : PyData.canLay0 (.list (pyAll ds)) = true := c
      rw [PyData.canLay0] at c'
      exact .lst h1 (RepAll.dp h2 c')
theorem RepAll.dp : ∀ {ds : List D} {vs : List V}, RepAll K F vs ds → PyData.canLayAll0 (pyAll ds) = true → DpAll K F vs (pyAll ds)
  | [], _, h, _ => by cases h; exact .nil
  | d :: ds, _, h, c => by
    cases h with
    | cons h1 h2 =>
      have c' : PyData.canLayAll0 (d.py :: pyAll ds) = true := c
      rw [PyData.canLayAll0] at c'
      obtain ⟨c1, c2⟩ := Bool.and_eq_true_iff.mp c'
      exact .cons (Rep.dp h1 c1) (RepAll.dp h2 c2)
end
theorem RepAll.length : ∀ {ds : List D} {vs : List V}, RepAll K F vs ds → vs.length = ds.length
  | [], _, h => by cases h; rfl
  | d :: ds, _, h => by
    cases h with
    | cons h1 h2 => rw [List.length_cons, List.length_cons, RepAll.length h2]
theorem RepAll.append : ∀ {ds es : List D} {vs us : List V}, RepAll K F vs ds → RepAll K F us es → RepAll K F (vs ++ us) (ds ++ es)
  | [], _, _, _, h, g => by cases h; exact g
  | d :: ds, _, _, _, h, g => by
    cases h with
    | cons h1 h2 => exact .cons h1 (RepAll.append h2 g)
theorem RepAll.get : ∀ {ds : List D} {vs : List V} {i : Nat} {d : D}, RepAll K F vs ds → ds[i]? = some d → ∃ v, vs[i]? = some v ∧ Rep K F v d
  | [], _, _, _, h, e => by simp at e
  | d :: ds, _, i, x, h, e => by
    cases h with
    | cons h1 h2 =>
      cases i with
      | zero =>
        simp at e
        subst e
        exact ⟨_, rfl, h1⟩
      | succ i =>
        obtain ⟨v, a, b⟩ := RepAll.get (i := i) h2 (by simpa using e)
        exact ⟨v, by simpa using a, b⟩
theorem RepAll.getV : ∀ {ds : List D} {vs : List V} {i : Nat} {v : V}, RepAll K F vs ds → vs[i]? = some v → ∃ d, ds[i]? = some d ∧ Rep K F v d
  | [], _, _, _, h, e => by cases h; simp at e
  | d :: ds, _, i, x, h, e => by
    cases h with
    | cons h1 h2 =>
      cases i with
      | zero =>
        simp at e
        subst e
        exact ⟨_, rfl, h1⟩
      | succ i =>
        obtain ⟨v, a, b⟩ := RepAll.getV (i := i) h2 (by simpa using e)
        exact ⟨v, by simpa using a, b⟩
theorem RepAll.take : ∀ {ds : List D} {vs : List V} (n : Nat), RepAll K F vs ds → RepAll K F (vs.take n) (ds.take n)
  | [], _, n, h => by cases h; simp; exact .nil
  | d :: ds, _, n, h => by
    cases h with
    | cons h1 h2 =>
      cases n with
      | zero => exact .nil
      | succ n => exact .cons h1 (RepAll.take n h2)
theorem RepAll.drop : ∀ {ds : List D} {vs : List V} (n : Nat), RepAll K F vs ds → RepAll K F (vs.drop n) (ds.drop n)
  | [], _, n, h => by cases h; simp; exact .nil
  | d :: ds, _, n, h => by
    cases h with
    | cons h1 h2 =>
      cases n with
      | zero => exact .cons h1 h2
      | succ n => exact RepAll.drop n h2
theorem RepAll.set : ∀ {ds : List D} {vs : List V} (i : Nat) {v : V} {d : D}, RepAll K F vs ds → Rep K F v d → RepAll K F (vs.set i v) (ds.set i d)
  | [], _, _, _, _, h, _ => by cases h; exact .nil
  | d :: ds, _, i, _, _, h, g => by
    cases h with
    | cons h1 h2 =>
      cases i with
      | zero => exact .cons g h2
      | succ i => exact .cons h1 (RepAll.set i h2 g)
end

/-! ### slots, outcomes -/
/-- what a slot holds: a datum, or a list that nothing else holds (t = 0: made here; t = k + 1: the k-th list that was lent to the def) -/
inductive SV where
  | d (x : D) | own (t : Nat) (xs : List D)
instance : Inhabited SV := ⟨.d .non⟩
abbrev Ev := List (Option SV)
structure Exc where
  name : Str
  arg : Option D
instance : Inhabited Exc := ⟨⟨.empty, none⟩⟩
structure Out (α : Type) where
  val : Except Exc α
  env : Ev
  good : Bool
abbrev M (α : Type) := Ev → Out α
def ret {α : Type} (x : α) : M α := fun e => ⟨.ok x, e, true⟩
def bad {α : Type} : M α := fun e => ⟨.error default, e, false⟩
def bnd {α β : Type} (m : M α) (k : α → M β) : M β := fun e => match m e with
  | ⟨.ok x, e1, g⟩ => (match k x e1 with
    | ⟨v, e2, g2⟩ => ⟨v, e2, g && g2⟩)
  | ⟨.error x, e1, g⟩ => ⟨.error x, e1, g⟩
def chk (b : Bool) : M Unit := fun e => ⟨.ok (), e, b⟩
inductive Fl where
  | next | brk | cont | ret (v : SV) | exc (x : Exc)
structure SOut where
  fl : Fl
  env : Ev
  good : Bool
abbrev MS := Ev → SOut
/-- an expression's outcome, then a statement's -/
def bndS {α : Type} (m : M α) (k : α → MS) : MS := fun e => match m e with
  | ⟨.ok x, e1, g⟩ => (match k x e1 with
    | ⟨v, e2, g2⟩ => ⟨v, e2, g && g2⟩)
  | ⟨.error x, e1, g⟩ => ⟨.exc x, e1, g⟩
def nextS : MS := fun e => ⟨.next, e, true⟩
def seqS (a b : MS) : MS := fun e => match a e with
  | ⟨.next, e1, g⟩ => (match b e1 with
    | ⟨v, e2, g2⟩ => ⟨v, e2, g && g2⟩)
  | ⟨f, e1, g⟩ => ⟨f, e1, g⟩

/-! ### the state -/
def Fz : HO → Prop
  | .lst _ => True
  | .tup _ => True
  | .frz _ (.lst _) => True
  | _ => False
abbrev Tab := List (Addr × Str)
/-- there at the entry (tables of code objects left out, where there are any) -/
def L0 (T : Tab) (H : Hp) (b : Addr) : Prop := ∃ o, H b = some o ∧ (T = [] ∨ ∀ ps, o ≠ .tbl ps)
/-- the value x of a slot: H0 the heap at the def's entry, B the lent lists -/
def SVR (K : PySem.W.Frag) (T : Tab) (Z H0 : Hp) (B : List Addr) (F H : Hp) : SV → V → Prop
  | .d d, x => Rep K F x d
  | .own t xs, x => ∃ (a : Addr) (vs : List V), x = .ref a ∧ H a = some (.lst vs) ∧ F a = none ∧ Z a = none ∧ RepAll K F vs xs ∧ (match t with
    | 0 => ¬ L0 T H0 a
    | k + 1 => B[k]? = some a)
def isOwn : Option (Option SV) → Bool
  | some (some (.own _ _)) => true
  | _ => false
structure SR (K : PySem.W.Frag) (T : Tab) (Z H0 : Hp) (B : List Addr) (F0 : Hp) (F : Hp) (env : Ev) (σ : L2.St) (H : Hp) : Prop where
  sub : Same F H
  pure : ∀ b o, F b = some o → Fz o
  sub0 : Same F0 F
  new : ∀ b, F0 b = none → L0 T H0 b → F b = none
  keep : ∀ b o, H0 b = some o → b ∉ B → (T = [] ∨ ∀ ps, o ≠ .tbl ps) → H b = some o
  tabs : LamX.Tabs T H
  bor : ∀ b ∈ B, F b = none ∧ L0 T H0 b
  live : ∀ b, L0 T H0 b → L0 T H b
  len : env.length = σ.length
  prot : Same Z H
  zf : ∀ b, Z b ≠ none → F b = none ∧ ∃ vs, Z b = some (.lst vs)
  slots : ∀ (i : Nat) (v : SV), env[i]? = some (some v) → ∃ x : V, (σ : List (Option V))[i]? = some (some x) ∧ SVR K T Z H0 B F H v x
  apart : ∀ (i j : Nat) (a : Addr), isOwn env[i]? = true → isOwn env[j]? = true → (σ : List (Option V))[i]? = some (some (V.ref a)) → (σ : List (Option V))[j]? = some (some (V.ref a)) → i = j
/-- the address of an exception: its class, its own dict -/
def ExcR (K : PySem.W.Frag) (mg : Str → Option Value) (F H : Hp) (e : Exc) (cls : Value) (dx : Option Addr) : Prop :=
  (∃ C, cls = .ref C ∧ mg e.name = some (.ref C) ∧ (match e.arg with
    | none => dx = none
    | some a => ∃ (d : Addr) (v : V), dx = some d ∧ H d = some (.xd [("limit", v)]) ∧ Rep K F v a)) ∨
  (mg e.name = none ∧ bootBuiltins e.name = some cls ∧ dx = none)
/-- a result that nothing else holds, or a datum -/
def FR (K : PySem.W.Frag) (T : Tab) (Z H0 : Hp) (B : List Addr) (F H : Hp) (env : Ev) (σ : L2.St) (v : SV) (x : V) : Prop :=
  SVR K T Z H0 B F H v x ∧ ∀ t xs, v = .own t xs → t = 0 ∧ ∀ (i : Nat) (a : Addr), x = .ref a → isOwn env[i]? = true → (σ : List (Option V))[i]? ≠ some (some (V.ref a))

section
variable (K : PySem.W.Frag) (mg : Str → Option Value) (T : Tab) (W : L2.WX)
section
variable (Z H0 : Hp) (B : List Addr) (F0 F : Hp)
theorem L0.lst {T : Tab} {H : Hp} {a : Addr} {vs : List V} (h : H a = some (.lst vs)) : L0 T H a := ⟨_, h, .inr fun ps z => by cases z⟩
/-- what an outcome owes: R where it ends well -/
def Post {α : Type} (R : Hp → Hp → Ev → α → Prop) (o : Out α) (σ : L2.St) : Prop := o.good = true ∧ match o.val with
  | .ok v => ∀ F' H', Same F F' → SR K T Z H0 B F0 F' o.env σ H' → R F' H' o.env v
  | .error e => ∀ F' H' cls dx, Same F F' → SR K T Z H0 B F0 F' o.env σ H' → ExcR K mg F' H' e cls dx → W cls dx σ H'
def PostS (D : Ends) (o : SOut) : Prop := o.good = true ∧ match o.fl with
  | .next => ∀ F' σ' H', Same F F' → SR K T Z H0 B F0 F' o.env σ' H' → D.nx σ' H'
  | .brk => ∀ F' σ' H', Same F F' → SR K T Z H0 B F0 F' o.env σ' H' → D.bk σ' H'
  | .cont => ∀ F' σ' H', Same F F' → SR K T Z H0 B F0 F' o.env σ' H' → D.ct σ' H'
  | .ret v => ∀ F' σ' H' x, Same F F' → SR K T Z H0 B F0 F' o.env σ' H' → FR K T Z H0 B F' H' o.env σ' v x → D.rt x H'
  | .exc e => ∀ F' σ' H' cls dx, Same F F' → SR K T Z H0 B F0 F' o.env σ' H' → ExcR K mg F' H' e cls dx → W cls dx σ' H'
end
/-- an expression that gives a datum -/
def LiftE (m : M D) : TE := fun σ H Q => ∃ Z H0 B F0 F env, SR K T Z H0 B F0 F env σ H ∧ Post K mg T W Z H0 B F0 F (fun F' H' _ d => ∀ x, Rep K F' x d → Q x H') (m env) σ
/-- an expression whose value may be a list of its own -/
def LiftO (m : M SV) : TE := fun σ H Q => ∃ Z H0 B F0 F env, SR K T Z H0 B F0 F env σ H ∧ Post K mg T W Z H0 B F0 F (fun F' H' env' v => ∀ x, FR K T Z H0 B F' H' env' σ v x → Q x H') (m env) σ
def LiftT (m : M Bool) : TT := fun σ H Q => ∃ Z H0 B F0 F env, SR K T Z H0 B F0 F env σ H ∧ Post K mg T W Z H0 B F0 F (fun _ H' _ b => Q b H') (m env) σ
def LiftA (m : M (List D)) : TA := fun σ H Q => ∃ Z H0 B F0 F env, SR K T Z H0 B F0 F env σ H ∧ Post K mg T W Z H0 B F0 F (fun F' H' _ ds => ∀ xs, RepAll K F' xs ds → Q xs H') (m env) σ
def LiftS (m : MS) : TS := fun D σ H => ∃ Z H0 B F0 F env, SR K T Z H0 B F0 F env σ H ∧ PostS K mg T W Z H0 B F0 F D (m env)
end
theorem PE.imp {X : Cx} {e : Expr} {t u : TE} (h : PE X e t) (i : ∀ σ H Q, u σ H Q → t σ H Q) : PE X e u := ⟨fun pins s σ H Q I q => h.run pins s σ H Q I (i σ H Q q)⟩
theorem PT.imp {X : Cx} {e : Expr} {t u : TT} (h : PT X e t) (i : ∀ σ H Q, u σ H Q → t σ H Q) : PT X e u := ⟨fun pins s σ H Q I q => h.run pins s σ H Q I (i σ H Q q)⟩
theorem PA.imp {X : Cx} {e : List Expr} {t u : TA} (h : PA X e t) (i : ∀ σ H Q, u σ H Q → t σ H Q) : PA X e u := ⟨fun pos pins s σ H Q I q => h.run pos pins s σ H Q I (i σ H Q q)⟩
theorem PS.imp {X : Cx} {e : Stmt} {t u : TS} (h : PS X e t) (i : ∀ D σ H, u D σ H → t D σ H) : PS X e u := ⟨fun pins s σ H D I q => h.run pins s σ H D I (i D σ H q)⟩
theorem PSs.imp {X : Cx} {e : List Stmt} {t u : TS} (h : PSs X e t) (i : ∀ D σ H, u D σ H → t D σ H) : PSs X e u := ⟨fun pins s σ H D I q => h.run pins s σ H D I (i D σ H q)⟩
end DL
set_option maxHeartbeats 1000000
/-! The state's steps, then the judgements. -/
namespace DL
open PySem PySem.Spec PyProof.Rows L2

theorem same_upd {H : Hp} {p : Addr} (h : H p = none) (o : HO) : Same H (upd H p o) := fun b u q => by rw [upd_ne (ne_of_none q h)]; exact q
theorem same_upd2 {F H : Hp} {p : Addr} (s : Same F H) (h : F p = none) (o : HO) : Same F (upd H p o) := fun b u q => by rw [upd_ne (ne_of_none q h)]; exact s b u q
theorem tabs_keep {T : Tab} {H H' : Hp} (t : LamX.Tabs T H) (k : ∀ b o, H b = some o → (∀ vs, o ≠ .lst vs) → H' b = some o) : LamX.Tabs T H' := fun p hp => by
  obtain ⟨ps, h1, h2, h3⟩ := t p hp
  refine ⟨ps, k _ _ h1 (fun vs z => by cases z), h2, fun pos cv hc => ?_⟩
  obtain ⟨c, e1, e2⟩ := h3 pos cv hc
  exact ⟨c, e1, k _ _ e2 fun vs z => by unfold LamX.CodeO at z; cases z⟩
section
variable {K : PySem.W.Frag} {mg : Str → Option Value} {T : Tab} {W : L2.WX} {Z H0 : Hp} {B : List Addr} {F0 F F1 : Hp} {env : Ev} {σ : L2.St} {H : Hp}

theorem SR.fresh0 (s : SR K T Z H0 B F0 F env σ H) {p : Addr} (h : H p = none) : ¬ L0 T H0 p := fun l => by
  obtain ⟨o, e, _⟩ := s.live p l
  rw [h] at e
  cases e
theorem SR.freshF (s : SR K T Z H0 B F0 F env σ H) {p : Addr} (h : H p = none) : F p = none := by
  cases e : F p with
  | none => rfl
  | some o =>
    rw [s.sub p o e] at h
    cases h
theorem SR.freshZ (s : SR K T Z H0 B F0 F env σ H) {p : Addr} (h : H p = none) : Z p = none := s.prot.free h
theorem SR.freshB (s : SR K T Z H0 B F0 F env σ H) {p : Addr} (h : H p = none) : p ∉ B := fun hb => (s.fresh0 h) (s.bor p hb).2
theorem SVR.mono {H1 F1 : Hp} {v : SV} {x : V} (f : Same F F1) (hf : ∀ a vs, H a = some (.lst vs) → F a = none → Z a = none → H1 a = some (.lst vs) ∧ F1 a = none) (r : SVR K T Z H0 B F H v x) : SVR K T Z H0 B F1 H1 v x := by
  cases v with
  | d d => exact Rep.mono f r
  | own t xs =>
    obtain ⟨a, vs, e, h1, h2, h5, h3, h4⟩ := r
    obtain ⟨g1, g2⟩ := hf a vs h1 h2 h5
    exact ⟨a, vs, e, g1, g2, h5, RepAll.mono f h3, h4⟩
/-- a new frozen object -/
theorem SR.laidF (s : SR K T Z H0 B F0 F env σ H) {p : Addr} (h : H p = none) {o : HO} (z : Fz o) : SR K T Z H0 B F0 (upd F p o) env σ (upd H p o) ∧ Same F (upd F p o) := by
  have fF := s.freshF h
  refine ⟨⟨fun b u e => ?_, fun b u e => ?_, fun b u e => ?_, fun b e1 e2 => ?_, fun b u e hb ht => ?_, tabs_keep s.tabs fun b u e _ => by rw [upd_ne (ne_of_none e h)]; exact e, fun b hb => ?_, fun b e => ?_, s.len, same_upd2 s.prot (s.freshZ h) o, fun b e => ?_, fun i v e => ?_, s.apart⟩, same_upd fF o⟩
  · by_cases q : b = p
    · subst q
      rw [upd_same] at e ⊢
      exact e
    · rw [upd_ne q] at e ⊢
      exact s.sub b u e
  · by_cases q : b = p
    · subst q
      rw [upd_same] at e
      cases e
      exact z
    · rw [upd_ne q] at e
      exact s.pure b u e
  · exact same_upd fF o b u (s.sub0 b u e)
  · have q : b ≠ p := fun q => by subst q; exact s.fresh0 h e2
    rw [upd_ne q]
    exact s.new b e1 e2
  · have q : b ≠ p := fun q => by
      subst q
      exact s.fresh0 h ⟨_, e, ht⟩
    rw [upd_ne q]
    exact s.keep b u e hb ht
  · have q : b ≠ p := fun q => by subst q; exact s.freshB h hb
    rw [upd_ne q]
    exact s.bor b hb
  · have q : b ≠ p := fun q => by subst q; exact s.fresh0 h e
    obtain ⟨u, hu, c⟩ := s.live b e
    exact ⟨u, by rw [upd_ne q]; exact hu, c⟩
  · have q : b ≠ p := fun q => by subst q; exact e (s.freshZ h)
    rw [upd_ne q]
    exact s.zf b e
  · obtain ⟨x, ex, r⟩ := s.slots i v e
    refine ⟨x, ex, r.mono (same_upd fF o) fun a vs e1 e2 _ => ?_⟩
    have q : a ≠ p := ne_of_none e1 h
    rw [upd_ne q, upd_ne q]
    exact ⟨e1, e2⟩
/-- a new object of any kind beside -/
theorem SR.laid (s : SR K T Z H0 B F0 F env σ H) {p : Addr} (h : H p = none) (o : HO) : SR K T Z H0 B F0 F env σ (upd H p o) := by
  refine ⟨same_upd2 s.sub (s.freshF h) o, s.pure, s.sub0, s.new, fun b u e hb ht => ?_, tabs_keep s.tabs fun b u e _ => by rw [upd_ne (ne_of_none e h)]; exact e, s.bor, fun b e => ?_, s.len, same_upd2 s.prot (s.freshZ h) o, s.zf, fun i v e => ?_, s.apart⟩
  · have q := s.keep b u e hb ht
    rw [upd_ne (ne_of_none q h)]
    exact q
  · have q : b ≠ p := fun q => by subst q; exact s.fresh0 h e
    obtain ⟨u, hu, c⟩ := s.live b e
    exact ⟨u, by rw [upd_ne q]; exact hu, c⟩
  · obtain ⟨x, ex, r⟩ := s.slots i v e
    refine ⟨x, ex, r.mono (Same.refl F) fun a vs e1 e2 _ => ⟨?_, e2⟩⟩
    rw [upd_ne (ne_of_none e1 h)]
    exact e1
/-- a new list of its own -/
theorem SR.fr_new (s : SR K T Z H0 B F0 F env σ H) {p : Addr} (h : H p = none) {vs : List V} {xs : List D} (r : RepAll K F vs xs) : FR K T Z H0 B F (upd H p (.lst vs)) env σ (.own 0 xs) (.ref p) := by
  refine ⟨⟨p, vs, rfl, upd_same, s.freshF h, s.freshZ h, r, s.fresh0 h⟩, fun t ys e => ?_⟩
  cases e
  refine ⟨rfl, fun i a ea ho q => ?_⟩
  cases ea
  cases e : env[i]? with
  | none =>
    rw [e] at ho
    simp [isOwn] at ho
  | some o =>
    cases o with
    | none =>
      rw [e] at ho
      simp [isOwn] at ho
    | some v =>
      cases v with
      | d x =>
        rw [e] at ho
        simp [isOwn] at ho
      | own t zs =>
        obtain ⟨x, ex, a, us, rfl, ha, _⟩ := s.slots i _ e
        rw [q] at ex
        cases ex
        rw [h] at ha
        cases ha
theorem FR.datum {v : V} {d : D} {F H : Hp} (r : Rep K F v d) : FR K T Z H0 B F H env σ (.d d) v := ⟨r, fun t xs e => by cases e⟩
/-- a slot is stored -/
theorem SR.stored (s : SR K T Z H0 B F0 F env σ H) {i : Nat} {v : SV} {x : V} (r : FR K T Z H0 B F H env σ v x) : SR K T Z H0 B F0 F (env.set i (some v)) (σ.set i (some x)) H := by
  refine ⟨s.sub, s.pure, s.sub0, s.new, s.keep, s.tabs, s.bor, s.live, by simpa using s.len, s.prot, s.zf, fun j u e => ?_, fun j k a hj hk ej ek => ?_⟩
  · by_cases q : j = i
    · subst q
      by_cases hl : j < env.length
      · rw [List.getElem?_set_self hl] at e
        cases e
        exact ⟨x, List.getElem?_set_self (by rw [← s.len]; exact hl), r.1⟩
      · rw [List.getElem?_eq_none (by simpa using hl)] at e
        cases e
    · rw [List.getElem?_set_ne (Ne.symm q)] at e ⊢
      exact s.slots j u e
  · have own_i : ∀ l, l ≠ i → isOwn (env.set i (some v))[l]? = true → isOwn env[l]? = true := fun l hl h => by
      rw [List.getElem?_set_ne (Ne.symm hl)] at h
      exact h
    have at_i : ∀ l, l = i → isOwn (env.set i (some v))[l]? = true → (∃ t xs, v = .own t xs) ∧ l < env.length := fun l hl h => by
      subst hl
      by_cases hlt : l < env.length
      · rw [List.getElem?_set_self hlt] at h
        cases v with
        | d d => simp [isOwn] at h
        | own t xs => exact ⟨⟨t, xs, rfl⟩, hlt⟩
      · rw [List.getElem?_eq_none (by simpa using hlt)] at h
        simp [isOwn] at h
    by_cases qj : j = i
    · by_cases qk : k = i
      · rw [qj, qk]
      · obtain ⟨⟨t, xs, ev⟩, hl⟩ := at_i j qj hj
        subst qj
        rw [List.getElem?_set_self (by rw [← s.len]; exact hl)] at ej
        rw [List.getElem?_set_ne (Ne.symm qk)] at ek
        cases ej
        exact absurd ek ((r.2 t xs ev).2 k a rfl (own_i k qk hk))
    · by_cases qk : k = i
      · obtain ⟨⟨t, xs, ev⟩, hl⟩ := at_i k qk hk
        subst qk
        rw [List.getElem?_set_self (by rw [← s.len]; exact hl)] at ek
        rw [List.getElem?_set_ne (Ne.symm qj)] at ej
        cases ek
        exact absurd ej ((r.2 t xs ev).2 j a rfl (own_i j qj hj))
      · rw [List.getElem?_set_ne (Ne.symm qj)] at ej
        rw [List.getElem?_set_ne (Ne.symm qk)] at ek
        exact s.apart j k a (own_i j qj hj) (own_i k qk hk) ej ek
/-- a list of its own becomes a datum -/
theorem SR.frozen (s : SR K T Z H0 B F0 F env σ H) {xs : List D} {x : V} (r : FR K T Z H0 B F H env σ (.own 0 xs) x) : ∃ F1, Same F F1 ∧ SR K T Z H0 B F0 F1 env σ H ∧ Rep K F1 x (.lst xs) := by
  obtain ⟨⟨a, vs, rfl, ha, fa, za, ra, h0⟩, q⟩ := r
  have sf := same_upd fa (.lst vs)
  refine ⟨upd F a (.lst vs), sf, ⟨fun b u e => ?_, fun b u e => ?_, fun b u e => sf b u (s.sub0 b u e), fun b e1 e2 => ?_, s.keep, s.tabs, fun b hb => ?_, s.live, s.len, s.prot, fun b e => ?_, fun i v e => ?_, s.apart⟩, .lst (.inl (.inl upd_same)) (RepAll.mono sf ra)⟩
  · by_cases z : b = a
    · subst z
      rw [upd_same] at e
      cases e
      exact ha
    · rw [upd_ne z] at e
      exact s.sub b u e
  · by_cases z : b = a
    · subst z
      rw [upd_same] at e
      cases e
      trivial
    · rw [upd_ne z] at e
      exact s.pure b u e
  · have z : b ≠ a := fun z => by subst z; exact h0 e2
    rw [upd_ne z]
    exact s.new b e1 e2
  · have z : b ≠ a := fun z => by subst z; exact h0 (s.bor b hb).2
    rw [upd_ne z]
    exact s.bor b hb
  · have z : b ≠ a := fun z => by subst z; exact e za
    rw [upd_ne z]
    exact s.zf b e
  · obtain ⟨x, ex, rx⟩ := s.slots i v e
    refine ⟨x, ex, ?_⟩
    cases v with
    | d d => exact Rep.mono sf rx
    | own t ys =>
      obtain ⟨c, us, ec, hc, fc, zc, rc, tc⟩ := rx
      have z : c ≠ a := fun z => by
        subst z
        subst ec
        exact (q 0 xs rfl).2 i c rfl (by rw [e]; rfl) ex
      exact ⟨c, us, ec, hc, by rw [upd_ne z]; exact fc, zc, RepAll.mono sf rc, tc⟩
/-- a slot is forgotten -/
theorem SR.drop (s : SR K T Z H0 B F0 F env σ H) (i : Nat) : SR K T Z H0 B F0 F (env.set i none) σ H := by
  have back : ∀ {j : Nat} {u : SV}, (env.set i none)[j]? = some (some u) → env[j]? = some (some u) := fun {j u} e => by
    by_cases q : j = i
    · subst q
      by_cases hl : j < env.length
      · rw [List.getElem?_set_self hl] at e
        cases e
      · rw [List.getElem?_eq_none (by simpa using hl)] at e
        cases e
    · rw [List.getElem?_set_ne (Ne.symm q)] at e
      exact e
  have backO : ∀ {j : Nat}, isOwn (env.set i none)[j]? = true → isOwn env[j]? = true := fun {j} h => by
    cases e : (env.set i none)[j]? with
    | none =>
      rw [e] at h
      simp [isOwn] at h
    | some o =>
      cases o with
      | none =>
        rw [e] at h
        simp [isOwn] at h
      | some u =>
        rw [back e]
        rw [e] at h
        exact h
  exact ⟨s.sub, s.pure, s.sub0, s.new, s.keep, s.tabs, s.bor, s.live, by simpa using s.len, s.prot, s.zf, fun j u e => s.slots j u (back e), fun j k a hj hk => s.apart j k a (backO hj) (backO hk)⟩
/-- a slot's own list may be handed out: the slot is forgotten -/
theorem SR.taken (s : SR K T Z H0 B F0 F env σ H) {i : Nat} {v : SV} {x : V} (e : env[i]? = some (some v)) (ex : (σ : List (Option V))[i]? = some (some x)) (r : SVR K T Z H0 B F H v x) (h0 : ∀ t xs, v = .own t xs → t = 0) : FR K T Z H0 B F H (env.set i none) σ v x := by
  refine ⟨r, fun t xs ev => ⟨h0 t xs ev, fun j a ea ho q => ?_⟩⟩
  subst ea
  subst ev
  have ji : j ≠ i := fun z => by
    subst z
    have hl : j < env.length := (List.getElem?_eq_some_iff.mp e).1
    rw [List.getElem?_set_self hl] at ho
    simp [isOwn] at ho
  rw [List.getElem?_set_ne (Ne.symm ji)] at ho
  exact ji (s.apart j i a ho (by rw [e]; rfl) q ex)
/-- a slot's own list is changed -/
theorem SR.mutated (s : SR K T Z H0 B F0 F env σ H) {i t : Nat} {xs ys : List D} {a : Addr} {vs : List V} (e : env[i]? = some (some (.own t xs))) (ex : (σ : List (Option V))[i]? = some (some (V.ref a)))
    (r : RepAll K F vs ys) : SR K T Z H0 B F0 F (env.set i (some (.own t ys))) σ (upd H a (.lst vs)) := by
  obtain ⟨x, ex', c, us, ec, hc, fc, zc, rc, tc⟩ := s.slots i _ e
  subst ec
  rw [ex] at ex'
  cases ex'
  have hl : i < env.length := (List.getElem?_eq_some_iff.mp e).1
  have own_i : ∀ l, isOwn (env.set i (some (.own t ys)))[l]? = true → isOwn env[l]? = true := fun l h => by
    by_cases q : l = i
    · subst q
      rw [e]
      rfl
    · rw [List.getElem?_set_ne (Ne.symm q)] at h
      exact h
  refine ⟨same_upd2 s.sub fc _, s.pure, s.sub0, s.new, fun b u eb hb ht => ?_, tabs_keep s.tabs fun b u eb hn => ?_, s.bor, fun b eb => ?_, by simpa using s.len, same_upd2 s.prot zc _, s.zf, fun j u ej => ?_, fun j k b hj hk => s.apart j k b (own_i j hj) (own_i k hk)⟩
  · by_cases q : b = a
    · subst q
      have tc' := tc
      cases t with
      | zero =>
        exact absurd ⟨_, eb, ht⟩ (show ¬ L0 T H0 b from tc')
      | succ k => exact absurd (List.mem_of_getElem? (show B[k]? = some b from tc')) hb
    · rw [upd_ne q]
      exact s.keep b u eb hb ht
  · by_cases q : b = a
    · subst q
      rw [hc] at eb
      cases eb
      exact absurd rfl (hn us)
    · rw [upd_ne q]
      exact eb
  · by_cases q : b = a
    · subst q
      exact L0.lst upd_same
    · obtain ⟨u, hu, c⟩ := s.live b eb
      exact ⟨u, by rw [upd_ne q]; exact hu, c⟩
  · by_cases q : j = i
    · subst q
      rw [List.getElem?_set_self hl] at ej
      cases ej
      exact ⟨.ref a, ex, a, vs, rfl, upd_same, fc, zc, r, tc⟩
    · rw [List.getElem?_set_ne (Ne.symm q)] at ej
      obtain ⟨x, ex2, rx⟩ := s.slots j u ej
      refine ⟨x, ex2, ?_⟩
      cases u with
      | d d => exact rx
      | own t2 zs =>
        obtain ⟨c, ws, ec, hc2, fc2, zc2, rc2, tc2⟩ := rx
        have z : c ≠ a := fun z => by
          subst z
          subst ec
          exact q (s.apart j i c (by rw [ej]; rfl) (by rw [e]; rfl) ex2 ex)
        exact ⟨c, ws, ec, by rw [upd_ne z]; exact hc2, fc2, zc2, rc2, tc2⟩
end
section
variable {K : PySem.W.Frag} {mg : Str → Option Value} {T : Tab} {W : L2.WX} {Z H0 : Hp} {B : List Addr} {F0 F F1 : Hp} {env : Ev} {σ : L2.St} {H : Hp} {α β : Type}
theorem Post.imp {R R' : Hp → Hp → Ev → α → Prop} {o : Out α} (p : Post K mg T W Z H0 B F0 F R o σ) (i : ∀ F' H' v, Same F F' → SR K T Z H0 B F0 F' o.env σ H' → R F' H' o.env v → R' F' H' o.env v) : Post K mg T W Z H0 B F0 F R' o σ := by
  obtain ⟨g, q⟩ := p
  refine ⟨g, ?_⟩
  cases e : o.val with
  | ok v =>
    rw [e] at q
    exact fun F' H' f s => i F' H' v f s (q F' H' f s)
  | error x =>
    rw [e] at q
    exact q
theorem Post.fwd {R : Hp → Hp → Ev → α → Prop} {o : Out α} (p : Post K mg T W Z H0 B F0 F R o σ) (f : Same F F1) : Post K mg T W Z H0 B F0 F1 R o σ := by
  obtain ⟨g, q⟩ := p
  refine ⟨g, ?_⟩
  cases e : o.val with
  | ok v =>
    rw [e] at q
    exact fun F' H' f' s => q F' H' (f.trans f') s
  | error x =>
    rw [e] at q
    exact fun F' H' cls dx f' s => q F' H' cls dx (f.trans f') s
theorem PostS.fwd {D : Ends} {o : SOut} (p : PostS K mg T W Z H0 B F0 F D o) (f : Same F F1) : PostS K mg T W Z H0 B F0 F1 D o := by
  obtain ⟨g, q⟩ := p
  refine ⟨g, ?_⟩
  cases e : o.fl with
  | next => rw [e] at q; exact fun F' σ' H' f' s => q F' σ' H' (f.trans f') s
  | brk => rw [e] at q; exact fun F' σ' H' f' s => q F' σ' H' (f.trans f') s
  | cont => rw [e] at q; exact fun F' σ' H' f' s => q F' σ' H' (f.trans f') s
  | ret v => rw [e] at q; exact fun F' σ' H' x f' s => q F' σ' H' x (f.trans f') s
  | exc v => rw [e] at q; exact fun F' σ' H' cls dx f' s => q F' σ' H' cls dx (f.trans f') s
theorem Post.bnd {R : Hp → Hp → Ev → β → Prop} {m : M α} {k : α → M β} (p : Post K mg T W Z H0 B F0 F R (bnd m k env) σ) :
    Post K mg T W Z H0 B F0 F (fun F1 _ env1 x => Post K mg T W Z H0 B F0 F1 R (k x env1) σ) (m env) σ := by
  unfold DL.bnd at p
  generalize m env = o at p ⊢
  obtain ⟨v, e1, g⟩ := o
  cases v with
  | error x => exact p
  | ok x =>
    obtain ⟨pg, pq⟩ := p
    obtain ⟨g1, g2⟩ := Bool.and_eq_true_iff.mp (show (g && (k x e1).good) = true from pg)
    exact ⟨g1, fun F' H' f s => Post.fwd (F := F) ⟨g2, pq⟩ f⟩
theorem PostS.bnd {D : Ends} {m : M α} {k : α → MS} (p : PostS K mg T W Z H0 B F0 F D (bndS m k env)) :
    Post K mg T W Z H0 B F0 F (fun F1 _ env1 x => PostS K mg T W Z H0 B F0 F1 D (k x env1)) (m env) σ := by
  unfold DL.bndS at p
  generalize m env = o at p ⊢
  obtain ⟨v, e1, g⟩ := o
  cases v with
  | error x => exact ⟨p.1, fun F' H' cls dx f s => p.2 F' σ H' cls dx f s⟩
  | ok x =>
    obtain ⟨pg, pq⟩ := p
    obtain ⟨g1, g2⟩ := Bool.and_eq_true_iff.mp (show (g && (k x e1).good) = true from pg)
    exact ⟨g1, fun F' H' f s => PostS.fwd (F := F) ⟨g2, pq⟩ f⟩
theorem PostS.seq {D : Ends} {a b : MS} (p : PostS K mg T W Z H0 B F0 F D (seqS a b env)) :
    PostS K mg T W Z H0 B F0 F { D with nx := fun σ' H' => ∃ F1 env1, SR K T Z H0 B F0 F1 env1 σ' H' ∧ PostS K mg T W Z H0 B F0 F1 D (b env1) } (a env) := by
  unfold DL.seqS at p
  generalize a env = o at p ⊢
  obtain ⟨v, e1, g⟩ := o
  cases v with
  | next =>
    obtain ⟨pg, pq⟩ := p
    obtain ⟨g1, g2⟩ := Bool.and_eq_true_iff.mp (show (g && (b e1).good) = true from pg)
    exact ⟨g1, fun F' σ' H' f s => ⟨F', e1, s, PostS.fwd (F := F) ⟨g2, pq⟩ f⟩⟩
  | brk => exact p
  | cont => exact p
  | ret v => exact p
  | exc x => exact p
theorem Post.ret {R : Hp → Hp → Ev → α → Prop} {x : α} (p : Post K mg T W Z H0 B F0 F R (ret x env) σ) (s : SR K T Z H0 B F0 F env σ H) : R F H env x := p.2 F H (Same.refl F) s
end
end DL
set_option maxHeartbeats 1000000
/-! The judgements: names, constants, operators, comparisons, tests, items, slices. -/
namespace DL
open PySem PySem.Spec PyProof.Rows L2

abbrev DE (X : Cx) (T : Tab) (W : L2.WX) (e : Expr) (m : M D) : Prop := PE X e (LiftE X.K X.mg T W m)
abbrev OE (X : Cx) (T : Tab) (W : L2.WX) (e : Expr) (m : M SV) : Prop := PE X e (LiftO X.K X.mg T W m)
abbrev DT (X : Cx) (T : Tab) (W : L2.WX) (e : Expr) (m : M Bool) : Prop := PT X e (LiftT X.K X.mg T W m)
abbrev DA (X : Cx) (T : Tab) (W : L2.WX) (e : List Expr) (m : M (List D)) : Prop := PA X e (LiftA X.K X.mg T W m)
abbrev DS (X : Cx) (T : Tab) (W : L2.WX) (e : Stmt) (m : MS) : Prop := PS X e (LiftS X.K X.mg T W m)
abbrev DSs (X : Cx) (T : Tab) (W : L2.WX) (e : List Stmt) (m : MS) : Prop := PSs X e (LiftS X.K X.mg T W m)

/-! ### what the pieces do -/
def mx : Nat := 16777216
theorem mx_eq : sizeLine = mx := sizeLine_eq
def toD (m : M SV) : M D := bnd m fun v => match v with
  | .d x => ret x
  | .own 0 xs => ret (.lst xs)
  | .own (_ + 1) _ => bad
def ofD (m : M D) : M SV := bnd m fun d => ret (.d d)
def varE (i : Nat) : M D := fun e => match e[i]? with
  | some (some (.d d)) => ⟨.ok d, e, true⟩
  | some (some (.own 0 xs)) => ⟨.ok (.lst xs), e.set i (some (.d (.lst xs))), true⟩
  | _ => ⟨.error default, e, false⟩
/-- the slot's own content is handed out -/
def takeO (i : Nat) : M SV := fun e => match e[i]? with
  | some (some (.d d)) => ⟨.ok (.d d), e, true⟩
  | some (some (.own 0 xs)) => ⟨.ok (.own 0 xs), e.set i none, true⟩
  | _ => ⟨.error default, e, false⟩
def constE (d : D) : M D := ret d
def nilA : M (List D) := ret []
def consA (m : M D) (r : M (List D)) : M (List D) := bnd m fun x => bnd r fun xs => ret (x :: xs)
def tupE (m : M (List D)) : M D := bnd m fun ds => fun e => ⟨.ok (.tup ds), e, decide (ds.length ≤ mx)⟩
def lstO (m : M (List D)) : M SV := bnd m fun ds => fun e => ⟨.ok (.own 0 ds), e, decide (ds.length ≤ mx)⟩
def un1 (f : D → M D) (a : M D) : M D := bnd a f
def bin2 {α : Type} (f : D → D → M α) (a b : M D) : M α := bnd a fun x => bnd b fun y => f x y
def tst (g : Bool) (d : D) : M D := fun e => ⟨.ok d, e, g⟩
def tstO (g : Bool) (d : SV) : M SV := fun e => ⟨.ok d, e, g⟩
def negF : D → M D
  | .int i => ret (.int (-i))
  | _ => bad
def subF : D → D → M D
  | .int i, .int j => ret (.int (i - j))
  | _, _ => bad
def addF : D → D → M SV
  | .int i, .int j => ret (.d (.int (i + j)))
  | .tup xs, .tup ys => tstO (decide (xs.length + ys.length ≤ mx)) (.d (.tup (xs ++ ys)))
  | .lst xs, .lst ys => tstO (decide (xs.length + ys.length ≤ mx)) (.own 0 (xs ++ ys))
  | .str x, .str y => tstO (decide (x.length + y.length ≤ mx)) (.d (.str (x ++ y)))
  | _, _ => bad
def mulB (i j : Int) : Bool := decide (i.natAbs.log2 + j.natAbs.log2 < 1000000)
/-- a product of ints -/
def mulF : D → D → M D
  | .int i, .int j => tst (mulB i j) (.int (i * j))
  | _, _ => bad
/-- a list times an int -/
def repLF : D → D → M SV
  | .lst xs, .int k => tstO (decide (-(2 ^ 63) ≤ k ∧ k < 2 ^ 63 ∧ xs.length * k.toNat ≤ mx)) (.own 0 (List.replicate k.toNat xs).flatten)
  | _, _ => bad
def fdivF : D → D → M D
  | .int i, .int j => tst (decide (j ≠ 0 ∧ (j.natAbs < 1073741824 ∨ (0 < j ∧ j.natAbs.log2 < 9000)))) (.int (i.fdiv j))
  | _, _ => bad
def modF : D → D → M D
  | .int i, .int j => tst (decide (j ≠ 0)) (.int (i.fmod j))
  | _, _ => bad
def powF : D → D → M D
  | .int i, .int j => tst (decide (0 ≤ j ∧ j ≤ 1000000 ∧ i.natAbs < 2 ^ 64)) (.int (i ^ j.toNat))
  | _, _ => bad
def D.beq (x y : D) : Bool := PyData.eqv x.py y.py
def D.shp (x : D) : Bool := SeqAt.shaped x.py
def eqF (x y : D) : M D := tst (x.shp && y.shp) (.bl (x.beq y))
def neF (x y : D) : M D := tst (x.shp && y.shp) (.bl (!x.beq y))
def cmpF (p : Int → Int → Bool) : D → D → M D
  | .int i, .int j => ret (.bl (p i j))
  | _, _ => bad
def ltP (i j : Int) : Bool := decide (i < j)
def leP (i j : Int) : Bool := decide (i ≤ j)
def gtP (i j : Int) : Bool := decide (j < i)
def geP (i j : Int) : Bool := decide (j ≤ i)
def isNonF : D → M D
  | .non => ret (.bl true)
  | _ => ret (.bl false)
def notNonF : D → M D
  | .non => ret (.bl false)
  | _ => ret (.bl true)
def flatD : D → Bool
  | .non => true
  | .bl _ => true
  | .int _ => true
  | .str _ => true
  | _ => false
def items : D → Option (List D)
  | .tup xs => some xs
  | .lst xs => some xs
  | _ => none
/-- x in ys -/
def inF (neg : Bool) (x y : D) : M D := match items y with
  | some ys => tst (flatD x && ys.all flatD) (.bl (if neg then !(ys.any fun z => z.beq x) else ys.any fun z => z.beq x))
  | none => bad
def atF (x y : D) : M D := match items x, y with
  | some xs, .int i => (match atI xs i with
    | some d => ret d
    | none => bad)
  | _, _ => bad
def cutD (xs : List D) (lo hi : Option Int) : List D := (xs.drop (HT.sIx xs.length 0 lo)).take (HT.sIx xs.length xs.length hi - HT.sIx xs.length 0 lo)
def slF (x : D) (lo hi : Option Int) : M SV := match x with
  | .tup xs => ret (.d (.tup (cutD xs lo hi)))
  | .lst xs => ret (.own 0 (cutD xs lo hi))
  | _ => bad
def intO : D → M (Option Int)
  | .int i => ret (some i)
  | _ => bad
def noPart : M (Option Int) := ret none
def part (m : M D) : M (Option Int) := bnd m intO
def slO (m : M D) (lo hi : M (Option Int)) : M SV := bnd m fun x => bnd lo fun l => bnd hi fun h => slF x l h
/-- tests -/
def blF : D → M Bool
  | .bl b => ret b
  | _ => bad
def tB (m : M D) : M Bool := bnd m blF
def notT (m : M Bool) : M Bool := bnd m fun b => ret (!b)
def andT (a b : M Bool) : M Bool := bnd a fun x => if x then b else ret false
def orT (a b : M Bool) : M Bool := bnd a fun x => if x then ret true else b
def iteM {α : Type} (t : M Bool) (a b : M α) : M α := bnd t fun x => if x then a else b
def ofT (m : M Bool) : M D := bnd m fun b => ret (.bl b)
/-- a op b op' c -/
def chainE (f g : D → D → M D) (a b c : M D) : M D := bnd a fun x => bnd b fun y => bnd (tB (f x y)) fun k => if k then bnd c fun z => g y z else ret (.bl false)

section
variable {X : Cx} {T : Tab} {W : L2.WX} {a b c e : Expr} {pos : Pos}

theorem oe_de {m : M SV} (h : OE X T W e m) : DE X T W e (toD m) := PE.imp h fun σ H Q ⟨Z, H0, B, F0, F, env, s, p⟩ => by
  refine ⟨Z, H0, B, F0, F, env, s, p.bnd.imp fun F1 H1 v f1 s1 p1 x fr => ?_⟩
  cases v with
  | d d => exact p1.2 F1 H1 (Same.refl _) s1 x fr.1
  | own t xs =>
    cases t with
    | zero =>
      obtain ⟨F2, f2, s2, r2⟩ := s1.frozen fr
      exact p1.2 F2 H1 f2 s2 x r2
    | succ k => exact absurd p1.1 (by intro z; cases z)
theorem de_oe {m : M D} (h : DE X T W e m) : OE X T W e (ofD m) := PE.imp h fun σ H Q ⟨Z, H0, B, F0, F, env, s, p⟩ =>
  ⟨Z, H0, B, F0, F, env, s, p.bnd.imp fun F1 H1 v f1 s1 p1 x r => p1.2 F1 H1 (Same.refl _) s1 x (FR.datum r)⟩
/-- a reading that gives Rep at once -/
theorem de_const {t : TE} {d : D} (h : PE X e t) (i : ∀ σ H Q, (∀ x, (∀ F, Rep X.K F x d) → Q x H) → t σ H Q) : DE X T W e (constE d) := PE.imp h fun σ H Q ⟨Z, H0, B, F0, F, env, s, p⟩ =>
  i σ H Q fun x r => p.2 F H (Same.refl _) s x (r F)
theorem de_int {i : Int} {j} : DE X T W (.Constant (.int i) j pos) (constE (.int i)) := de_const pe_int fun _ _ _ h => h _ fun _ => .int i
theorem de_bl {b : Bool} {j} : DE X T W (.Constant (.bool b) j pos) (constE (.bl b)) := de_const pe_bl fun _ _ _ h => h _ fun _ => .bl b
theorem de_non {j} : DE X T W (.Constant .none j pos) (constE .non) := de_const pe_non fun _ _ _ h => h _ fun _ => .non
theorem de_str {x : Str} {j} : DE X T W (.Constant (.str x) j pos) (constE (.str x)) := de_const pe_str fun _ _ _ h => h _ fun _ => .str x
theorem de_glob {x : Str} {v : V} {u : Value} {d : D} (hg : Gl X x) (hm : X.mg x = some u) (r : RelV v u) (rd : ∀ F, Rep X.K F v d) (hd : (x == ("__debug__" : Str)) = false := by decide) : DE X T W (.Name x pos) (constE d) :=
  de_const (pe_glob hg hm r hd) fun _ _ _ h => h _ rd
theorem de_globI {x : Str} {i : Int} {t : Tok} (hg : Gl X x) (hm : X.mg x = some (.int i t)) (hd : (x == ("__debug__" : Str)) = false := by decide) : DE X T W (.Name x pos) (constE (.int i)) :=
  de_glob (v := .int i) hg hm ⟨t, rfl⟩ (fun _ => .int i) hd
theorem de_globO {x : Str} {f : Addr} (hg : Gl X x) (hm : X.mg x = some (.ref f)) (hd : (x == ("__debug__" : Str)) = false := by decide) : DE X T W (.Name x pos) (constE (.obj f)) :=
  de_glob (v := .ref f) hg hm rfl (fun _ => .obj f) hd
theorem de_var {i : Nat} (h : PE X e (tVar i)) : DE X T W e (varE i) := PE.imp h fun σ H Q ⟨Z, H0, B, F0, F, env, s, p⟩ => by
  unfold varE at p
  cases q : env[i]? with
  | none =>
    rw [q] at p
    cases p.1
  | some o =>
    cases o with
    | none =>
      rw [q] at p
      cases p.1
    | some v =>
      obtain ⟨x, ex, r⟩ := s.slots i v q
      rw [q] at p
      cases v with
      | d d => exact ⟨x, ex, p.2 F H (Same.refl _) s x r⟩
      | own t xs =>
        cases t with
        | zero =>
          obtain ⟨F1, f1, s1, r1⟩ := (s.drop i).frozen (s.taken q ex r fun _ _ z => by cases z; rfl)
          have s2 := s1.stored (i := i) (v := .d (.lst xs)) (x := x) (FR.datum r1)
          have e1 : (env.set i none).set i (some (SV.d (.lst xs))) = env.set i (some (.d (.lst xs))) := by rw [List.set_set]
          have e2 : (σ : List (Option V)).set i (some x) = σ := by
            have hl := (List.getElem?_eq_some_iff.mp ex)
            obtain ⟨h1, h2⟩ := hl
            rw [← h2]
            exact List.set_getElem_self h1
          rw [e1, e2] at s2
          exact ⟨x, ex, p.2 F1 H f1 s2 x r1⟩
        | succ k => cases p.1
theorem oe_take {i : Nat} (h : PE X e (tVar i)) : OE X T W e (takeO i) := PE.imp h fun σ H Q ⟨Z, H0, B, F0, F, env, s, p⟩ => by
  unfold takeO at p
  cases q : env[i]? with
  | none =>
    rw [q] at p
    cases p.1
  | some o =>
    cases o with
    | none =>
      rw [q] at p
      cases p.1
    | some v =>
      obtain ⟨x, ex, r⟩ := s.slots i v q
      rw [q] at p
      cases v with
      | d d => exact ⟨x, ex, p.2 F H (Same.refl _) s x (FR.datum r)⟩
      | own t xs =>
        cases t with
        | zero => exact ⟨x, ex, p.2 F H (Same.refl _) (s.drop i) x (s.taken q ex r fun _ _ z => by cases z; rfl)⟩
        | succ k => cases p.1

/-! ### argument lists, displays -/
theorem da_nil : DA X T W [] nilA := PA.imp pa_nil fun σ H Q ⟨Z, H0, B, F0, F, env, s, p⟩ => p.2 F H (Same.refl _) s [] .nil
theorem da_cons {es : List Expr} {m : M D} {r : M (List D)} (ha : DE X T W e m) (hr : DA X T W es r) (hs : starEach (e :: es) X.env = (false, eval e X.env) :: starEach es X.env := by rfl) : DA X T W (e :: es) (consA m r) :=
  PA.imp (pa_cons ha hr hs) fun σ H Q ⟨Z, H0, B, F0, F, env, s, p⟩ => ⟨Z, H0, B, F0, F, env, s, p.bnd.imp fun F1 H1 d f1 s1 p1 x rx =>
    ⟨Z, H0, B, F0, F1, _, s1, p1.bnd.imp fun F2 H2 ds f2 s2 p2 xs rs => p2.2 F2 H2 (Same.refl _) s2 (x :: xs) (.cons (rx.mono f2) rs)⟩⟩
theorem de_tup {es : List Expr} {m : M (List D)} {x1} (h : DA X T W es m) : DE X T W (.Tuple es x1 pos) (tupE m) :=
  PE.imp (pe_tup h) fun σ H Q ⟨Z, H0, B, F0, F, env, s, p⟩ => ⟨Z, H0, B, F0, F, env, s, p.bnd.imp fun F1 H1 ds f1 s1 p1 xs rs => by
    refine ⟨by rw [mx_eq, RepAll.length rs]; exact of_decide_eq_true p1.1, fun q hq => ?_⟩
    obtain ⟨s2, f2⟩ := s1.laidF hq (o := .tup xs) trivial
    exact p1.2 _ _ f2 s2 _ (.tup (SqT.of upd_same) (RepAll.mono f2 rs))⟩
theorem oe_lst {es : List Expr} {m : M (List D)} (h : DA X T W es m) : OE X T W (.List es pos) (lstO m) :=
  PE.imp (pe_lst h) fun σ H Q ⟨Z, H0, B, F0, F, env, s, p⟩ => ⟨Z, H0, B, F0, F, env, s, p.bnd.imp fun F1 H1 ds f1 s1 p1 xs rs => by
    refine ⟨by rw [mx_eq, RepAll.length rs]; exact of_decide_eq_true p1.1, fun q hq => ?_⟩
    exact p1.2 _ _ (Same.refl _) (s1.laid hq _) _ (s1.fr_new hq rs)⟩

/-! ### operators -/
theorem de_bin {op : Operator} {r : R2} {f : D → D → M D} {ma mb : M D} (ho : OpR X (binaryOp op) r) (ha : DE X T W a ma) (hb : DE X T W b mb)
    (hr : ∀ {Z H0 : Hp} {B : List Addr} {F0 F : Hp} {env : Ev} {σ : L2.St} {H : Hp} {Q : VK} {x y : V} {u v : D}, SR X.K T Z H0 B F0 F env σ H → Rep X.K F x u → Rep X.K F y v → Post X.K X.mg T W Z H0 B F0 F (fun F' H' _ d => ∀ x, Rep X.K F' x d → Q x H') (f u v env) σ → r x y H Q) :
    DE X T W (.BinOp a op b pos) (bin2 f ma mb) := PE.imp (pe_op ho ha hb) fun σ H Q ⟨Z, H0, B, F0, F, env, s, p⟩ => ⟨Z, H0, B, F0, F, env, s, p.bnd.imp fun F1 H1 d f1 s1 p1 x rx =>
    ⟨Z, H0, B, F0, F1, _, s1, p1.bnd.imp fun F2 H2 ds f2 s2 p2 xs rs => hr s2 (rx.mono f2) rs p2⟩⟩
theorem oe_bin {op : Operator} {r : R2} {f : D → D → M SV} {ma mb : M D} (ho : OpR X (binaryOp op) r) (ha : DE X T W a ma) (hb : DE X T W b mb)
    (hr : ∀ {Z H0 : Hp} {B : List Addr} {F0 F : Hp} {env : Ev} {σ : L2.St} {H : Hp} {Q : VK} {x y : V} {u v : D}, SR X.K T Z H0 B F0 F env σ H → Rep X.K F x u → Rep X.K F y v → Post X.K X.mg T W Z H0 B F0 F (fun F' H' env' d => ∀ x, FR X.K T Z H0 B F' H' env' σ d x → Q x H') (f u v env) σ → r x y H Q) :
    OE X T W (.BinOp a op b pos) (bin2 f ma mb) := PE.imp (pe_op ho ha hb) fun σ H Q ⟨Z, H0, B, F0, F, env, s, p⟩ => ⟨Z, H0, B, F0, F, env, s, p.bnd.imp fun F1 H1 d f1 s1 p1 x rx =>
    ⟨Z, H0, B, F0, F1, _, s1, p1.bnd.imp fun F2 H2 ds f2 s2 p2 xs rs => hr s2 (rx.mono f2) rs p2⟩⟩
theorem meets_add (l : Addr) (items : Array Value) (n : Nat) (b : Addr) (items2 : Array Value) (n2 : Nat) (sl sl2 : Array (Option Value)) (hc0 : items.size + items2.size ≤ sizeLine) :
    Meets (Builtin.«list.__add__» ⟨[.ref l, .ref b], []⟩) (fun _ R s => s.heap.get? l = some { cls := .type "list", dict := none, data := .seq items n, slots := sl } ∧ s.heap.get? b = some { cls := .type "list", dict := none, data := .seq items2 n2, slots := sl2 } ∧ R (.ok (.ret (Value.ref s.heap.objs.size))) { s with heap := s.heap.push { cls := Value.type "list", data := Data.seq (items ++ items2) }, toks := s.toks }) :=
  .of_wp fun prog w A R s h => by
    obtain ⟨hp, g, d, tk, os⟩ := s
    obtain ⟨hl, hb, h⟩ := h
    have f1 := PySem.AutoSeq1.idx_int
    have f2 := PySem.AutoSeq1.sub_tuple_tuple
    have f3 := PySem.AutoSeq1.sub_list_list
    have f4 := PySem.AutoSeq1.sub_tuple_list
    have f5 := PySem.AutoSeq1.sub_list_tuple
    wp_walk using PySem.AutoSeq1.wpAny_loadPart' hl, PySem.AutoSeq1.wpAny_loadPart' hb
    exact ⟨_, rfl, h⟩
theorem op_catL : OpR X (binaryOp .Add) (fun x y H Q => ∃ l b xs zs, x = .ref l ∧ y = .ref b ∧ SqL X.K H l xs ∧ SqL X.K H b zs ∧ xs.length + zs.length ≤ sizeLine ∧ ∀ p, H p = none → Q (.ref p) (upd H p (.lst (xs ++ zs)))) := by
  intro pins s σ H x y v u Q I rx ry h
  obtain ⟨l, b, xs, zs, rfl, rfl, hH, hB, hz, q⟩ := h
  cases rx
  cases ry
  obtain ⟨its, r, ⟨⟨_, _, _, sl⟩, n, e, c1, c2, c3⟩, z⟩ := I.list hH
  obtain ⟨its2, r2, ⟨⟨_, _, _, sl2⟩, n2, e2, d1, d2, d3⟩, z2⟩ := I.list hB
  simp only at c1 c2 c3 d1 d2 d3
  subst c1 c2 c3 d1 d2 d3
  have l1 := r.length
  have l2 := r2.length
  refine concat_meets ⟨_, e, rfl⟩ ⟨_, e2, rfl⟩ noFill_list_add seq_list_add F.slot_list_add F.entry_list_add (F.args_list_add_2 _ _) (meets_add l its.toArray n b its2.toArray n2 sl sl2 (by rw [List.size_toArray, List.size_toArray]; omega)) ⟨e, e2, ?_⟩
  have ea : its.toArray ++ its2.toArray = (its ++ its2).toArray := by simp
  rw [ea]
  exact ⟨.ref _, _, I.lnew (t' := s.toks) (r.append r2) (by rw [List.length_append]; omega), rfl, q _ I.fresh⟩
theorem op_addAll : OpR X (binaryOp .Add) (fun x y H Q => (∃ i j, x = .int i ∧ y = .int j ∧ Q (.int (i + j)) H) ∨ (rCatA X.K x y H Q) ∨
    (∃ l b xs zs, x = .ref l ∧ y = .ref b ∧ SqL X.K H l xs ∧ SqL X.K H b zs ∧ xs.length + zs.length ≤ sizeLine ∧ ∀ p, H p = none → Q (.ref p) (upd H p (.lst (xs ++ zs)))) ∨
    (∃ i j, x = .str i ∧ y = .str j ∧ i.length + j.length ≤ sizeLine ∧ Q (.str (i ++ j)) H)) := op_add.or (op_catA.or (op_catL.or op_add_str))
theorem oe_add {ma mb : M D} (ha : DE X T W a ma) (hb : DE X T W b mb) : OE X T W (.BinOp a .Add b pos) (bin2 addF ma mb) := oe_bin op_addAll ha hb fun {Z H0 B F0 F env σ H Q x y u v} s rx ry p => by
  cases rx with
  | int i =>
    cases ry with
    | int j => exact .inl ⟨i, j, rfl, rfl, p.2 F H (Same.refl _) s _ (FR.datum (.int _))⟩
    | _ => cases p.1
  | str z =>
    cases ry with
    | str z2 => exact .inr (.inr (.inr ⟨z, z2, rfl, rfl, by rw [mx_eq]; exact of_decide_eq_true p.1, p.2 F H (Same.refl _) s _ (FR.datum (.str _))⟩))
    | _ => cases p.1
  | @tup a1 vs ds h1 h2 =>
    cases ry with
    | @tup a2 us es g1 g2 =>
      refine .inr (.inl ⟨a1, a2, vs, us, rfl, rfl, sameT s.sub h1, sameT s.sub g1, by rw [mx_eq, RepAll.length h2, RepAll.length g2]; exact of_decide_eq_true p.1, fun e => ?_, fun e e' => ?_, fun e e' q hq => ?_⟩)
      · subst e
        cases h2
        exact p.2 F H (Same.refl _) s _ (FR.datum (.tup g1 g2))
      · subst e'
        cases g2
        have z := p.2 F H (Same.refl _) s (.ref a1) (FR.datum (by rw [List.append_nil]; exact .tup h1 h2))
        exact z
      · obtain ⟨s2, f2⟩ := s.laidF hq (o := .tup (vs ++ us)) trivial
        exact p.2 _ _ f2 s2 _ (FR.datum (.tup (SqT.of upd_same) (RepAll.mono f2 (h2.append g2))))
    | _ => cases p.1
  | @lst a1 vs ds h1 h2 =>
    cases ry with
    | @lst a2 us es g1 g2 =>
      refine .inr (.inr (.inl ⟨a1, a2, vs, us, rfl, rfl, sameL s.sub h1, sameL s.sub g1, by rw [mx_eq, RepAll.length h2, RepAll.length g2]; exact of_decide_eq_true p.1, fun q hq => ?_⟩))
      exact p.2 F _ (Same.refl _) (s.laid hq _) _ (s.fr_new hq (h2.append g2))
    | _ => cases p.1
  | _ => cases p.1
theorem de_sub {ma mb : M D} (ha : DE X T W a ma) (hb : DE X T W b mb) : DE X T W (.BinOp a .Sub b pos) (bin2 subF ma mb) := de_bin op_sub ha hb fun {Z H0 B F0 F env σ H Q x y u v} s rx ry p => by
  cases rx with
  | int i =>
    cases ry with
    | int j => exact ⟨i, j, rfl, rfl, p.2 F H (Same.refl _) s _ (.int _)⟩
    | _ => cases p.1
  | _ => cases p.1
theorem de_mul {ma mb : M D} (ha : DE X T W a ma) (hb : DE X T W b mb) : DE X T W (.BinOp a .Mult b pos) (bin2 mulF ma mb) := de_bin op_mulW ha hb fun {Z H0 B F0 F env σ H Q x y u v} s rx ry p => by
  cases rx with
  | int i =>
    cases ry with
    | int j => exact ⟨i, j, rfl, rfl, of_decide_eq_true (p := i.natAbs.log2 + j.natAbs.log2 < 1000000) p.1, p.2 F H (Same.refl _) s _ (.int _)⟩
    | _ => cases p.1
  | _ => cases p.1
theorem de_mod {ma mb : M D} (ha : DE X T W a ma) (hb : DE X T W b mb) : DE X T W (.BinOp a .Mod b pos) (bin2 modF ma mb) := de_bin op_modN ha hb fun {Z H0 B F0 F env σ H Q x y u v} s rx ry p => by
  cases rx with
  | int i =>
    cases ry with
    | int j => exact ⟨i, j, rfl, rfl, of_decide_eq_true p.1, p.2 F H (Same.refl _) s _ (.int _)⟩
    | _ => cases p.1
  | _ => cases p.1
theorem de_pow {ma mb : M D} (ha : DE X T W a ma) (hb : DE X T W b mb) : DE X T W (.BinOp a .Pow b pos) (bin2 powF ma mb) := de_bin op_pow ha hb fun {Z H0 B F0 F env σ H Q x y u v} s rx ry p => by
  cases rx with
  | int i =>
    cases ry with
    | int j => exact ⟨i, j, rfl, rfl, of_decide_eq_true (p := 0 ≤ j ∧ j ≤ 1000000 ∧ i.natAbs < 2 ^ 64) p.1, p.2 F H (Same.refl _) s _ (.int _)⟩
    | _ => cases p.1
  | _ => cases p.1
theorem de_fdiv {ma mb : M D} (ha : DE X T W a ma) (hb : DE X T W b mb) : DE X T W (.BinOp a .FloorDiv b pos) (bin2 fdivF ma mb) := de_bin (op_fdivN.or op_fdivW) ha hb fun {Z H0 B F0 F env σ H Q x y u v} s rx ry p => by
  cases rx with
  | int i =>
    cases ry with
    | int j =>
      obtain ⟨h1, h2⟩ := of_decide_eq_true p.1
      have q := p.2 F H (Same.refl _) s _ (.int _)
      rcases h2 with h2 | ⟨h2, h3⟩
      · exact .inl ⟨i, j, rfl, rfl, ⟨h1, h2⟩, q⟩
      · refine .inr ⟨i, j, rfl, rfl, ⟨h2, h3⟩, ?_⟩
        have e : i / j = i.fdiv j := (Int.fdiv_eq_ediv_of_nonneg i (Int.le_of_lt h2)).symm
        rw [← e] at q
        exact q
    | _ => cases p.1
  | _ => cases p.1
theorem de_neg {ma : M D} (ha : DE X T W a ma) : DE X T W (.UnaryOp .USub a pos) (un1 negF ma) := PE.imp (pe_un un_neg ha) fun σ H Q ⟨Z, H0, B, F0, F, env, s, p⟩ => ⟨Z, H0, B, F0, F, env, s, p.bnd.imp fun F1 H1 d f1 s1 p1 x rx => by
  cases rx with
  | int i => exact ⟨i, rfl, p1.2 F1 H1 (Same.refl _) s1 _ (.int _)⟩
  | _ => cases p1.1⟩
end
end DL
set_option maxHeartbeats 1000000
/-! Comparisons, tests, items, slices, built-in calls. -/
namespace DL
open PySem PySem.Spec PyProof.Rows L2
section
variable {X : Cx} {T : Tab} {W : L2.WX} {a b c e : Expr} {pos : Pos}

/-- a rule of two values, by what it does to data -/
def R2D (X : Cx) (T : Tab) (W : L2.WX) (r : R2) (f : D → D → M D) : Prop := ∀ {Z H0 : Hp} {B : List Addr} {F0 F : Hp} {env : Ev} {σ : L2.St} {H : Hp} {Q : VK} {x y : V} {u v : D}, SR X.K T Z H0 B F0 F env σ H → Rep X.K F x u → Rep X.K F y v →
  Post X.K X.mg T W Z H0 B F0 F (fun F' H' _ d => ∀ x, Rep X.K F' x d → Q x H') (f u v env) σ → r x y H Q
theorem de_cmp {op : CmpOp} {r : R2} {f : D → D → M D} {ma mb : M D} (ho : OpR X (compareOp op) r) (hr : R2D X T W r f) (ha : DE X T W a ma) (hb : DE X T W b mb) (hm : behindInMarks op b = false) : DE X T W (.Compare a [op] [b] pos) (bin2 f ma mb) :=
  PE.imp (pe_cmpR ho ha hb hm) fun σ H Q ⟨Z, H0, B, F0, F, env, s, p⟩ => ⟨Z, H0, B, F0, F, env, s, p.bnd.imp fun F1 H1 d f1 s1 p1 x rx => ⟨Z, H0, B, F0, F1, _, s1, p1.bnd.imp fun F2 H2 ds f2 s2 p2 xs rs => hr s2 (rx.mono f2) rs p2⟩⟩
theorem dt_cmp {op : CmpOp} {r : R2} {f : D → D → M D} {ma mb : M D} (ho : OpR X (compareOp op) r) (hr : R2D X T W r f) (ha : DE X T W a ma) (hb : DE X T W b mb) (hm : behindInMarks op b = false) : DT X T W (.Compare a [op] [b] pos) (tB (bin2 f ma mb)) :=
  PT.imp (pt_cmpR ho ha hb hm) fun σ H Q ⟨Z, H0, B, F0, F, env, s, p⟩ => by
    have q := p.bnd
    refine ⟨Z, H0, B, F0, F, env, s, q.bnd.imp fun F1 H1 d f1 s1 p1 x rx => ⟨Z, H0, B, F0, F1, _, s1, p1.bnd.imp fun F2 H2 ds f2 s2 p2 y ry => hr s2 (rx.mono f2) ry (p2.imp fun F3 H3 d3 f3 s3 p3 z rz => ?_)⟩⟩
    cases rz with
    | bl k => exact ⟨k, rfl, p3.2 F3 H3 (Same.refl _) s3⟩
    | _ => cases p3.1
theorem dt_val {m : M D} (h : DE X T W e m) (he : ∀ whole, isTrue e X.env whole = (do let v ← whole; standAt e.pos; holding [v] (truthy v)) := by intro _; rfl) : DT X T W e (tB m) :=
  PT.imp (pt_val h he) fun σ H Q ⟨Z, H0, B, F0, F, env, s, p⟩ => ⟨Z, H0, B, F0, F, env, s, p.bnd.imp fun F1 H1 d f1 s1 p1 x rx => by
    cases rx with
    | bl k => exact ⟨k, rfl, p1.2 F1 H1 (Same.refl _) s1⟩
    | _ => cases p1.1⟩
abbrev DW (X : Cx) (T : Tab) (W : L2.WX) (e : Expr) (m : M Bool) : Prop := PW X e (LiftT X.K X.mg T W m)
theorem PW.imp {X : Cx} {e : Expr} {t u : TT} (h : PW X e t) (i : ∀ σ H Q, u σ H Q → t σ H Q) : PW X e u := ⟨fun whole pins s σ H Q I q => h.run whole pins s σ H Q I (i σ H Q q)⟩
theorem dw_and1 {m : M Bool} (h : DT X T W a m) : DW X T W (.BoolOp .And [a] pos) m := pw_and1 h
theorem dw_or1 {m : M Bool} (h : DT X T W a m) : DW X T W (.BoolOp .Or [a] pos) m := pw_or1 h
theorem dw_and {rest : List Expr} {ma mb : M Bool} (ha : DT X T W a ma) (hb : DW X T W (.BoolOp .And (b :: rest) pos) mb) : DW X T W (.BoolOp .And (a :: b :: rest) pos) (andT ma mb) :=
  PW.imp (pw_and ha hb) fun σ H Q ⟨Z, H0, B, F0, F, env, s, p⟩ => ⟨Z, H0, B, F0, F, env, s, p.bnd.imp fun F1 H1 k f1 s1 p1 => by
    cases k with
    | true => exact iteT ⟨Z, H0, B, F0, F1, _, s1, p1⟩
    | false => exact iteF (p1.2 F1 H1 (Same.refl _) s1)⟩
theorem dw_or {rest : List Expr} {ma mb : M Bool} (ha : DT X T W a ma) (hb : DW X T W (.BoolOp .Or (b :: rest) pos) mb) : DW X T W (.BoolOp .Or (a :: b :: rest) pos) (orT ma mb) :=
  PW.imp (pw_or ha hb) fun σ H Q ⟨Z, H0, B, F0, F, env, s, p⟩ => ⟨Z, H0, B, F0, F, env, s, p.bnd.imp fun F1 H1 k f1 s1 p1 => by
    cases k with
    | false => exact iteF ⟨Z, H0, B, F0, F1, _, s1, p1⟩
    | true => exact iteT (p1.2 F1 H1 (Same.refl _) s1)⟩
theorem dt_w {m : M Bool} (h : DW X T W e m) : DT X T W e m := PW.pt h
theorem dt_not {m : M Bool} (h : DT X T W a m) : DT X T W (.UnaryOp .Not a pos) (notT m) :=
  PT.imp (pt_not h) fun σ H Q ⟨Z, H0, B, F0, F, env, s, p⟩ => ⟨Z, H0, B, F0, F, env, s, p.bnd.imp fun F1 H1 k f1 s1 p1 => p1.2 F1 H1 (Same.refl _) s1⟩
/-! and, or, not as values, all but the last a truth value -/
def andE (a b : M D) : M D := bnd (tB a) fun x => if x then b else ret (.bl false)
def orE (a b : M D) : M D := bnd (tB a) fun x => if x then ret (.bl true) else b
def notE (a : M D) : M D := bnd (tB a) fun x => ret (.bl (!x))
theorem de_one {op} {m : M D} (h : DE X T W a m) : DE X T W (.BoolOp op [a] pos) m := pe_one h
theorem de_and {rest : List Expr} {ma mb : M D} (ha : DE X T W a ma) (hb : DE X T W (.BoolOp .And (b :: rest) pos) mb) : DE X T W (.BoolOp .And (a :: b :: rest) pos) (andE ma mb) :=
  PE.imp (pe_and ha hb) fun σ H Q ⟨Z, H0, B, F0, F, env, s, p⟩ => by
    have q := p.bnd
    refine ⟨Z, H0, B, F0, F, env, s, (Post.bnd (m := ma) (k := blF) p.bnd).imp fun F1 H1 d f1 s1 p1 x rx => ?_⟩
    cases rx with
    | bl k =>
      refine ⟨k, rfl, ?_⟩
      have p2 := p1.2 F1 H1 (Same.refl _) s1
      cases k with
      | true => exact iteT ⟨Z, H0, B, F0, F1, _, s1, p2⟩
      | false => exact iteF (p2.2 F1 H1 (Same.refl _) s1 _ (.bl false))
    | _ => cases p1.1
theorem de_or {rest : List Expr} {ma mb : M D} (ha : DE X T W a ma) (hb : DE X T W (.BoolOp .Or (b :: rest) pos) mb) : DE X T W (.BoolOp .Or (a :: b :: rest) pos) (orE ma mb) :=
  PE.imp (pe_or ha hb) fun σ H Q ⟨Z, H0, B, F0, F, env, s, p⟩ => by
    refine ⟨Z, H0, B, F0, F, env, s, (Post.bnd (m := ma) (k := blF) p.bnd).imp fun F1 H1 d f1 s1 p1 x rx => ?_⟩
    cases rx with
    | bl k =>
      refine ⟨k, rfl, ?_⟩
      have p2 := p1.2 F1 H1 (Same.refl _) s1
      cases k with
      | false => exact iteF ⟨Z, H0, B, F0, F1, _, s1, p2⟩
      | true => exact iteT (p2.2 F1 H1 (Same.refl _) s1 _ (.bl true))
    | _ => cases p1.1
theorem de_not {ma : M D} (ha : DE X T W a ma) : DE X T W (.UnaryOp .Not a pos) (notE ma) :=
  PE.imp (pe_not ha) fun σ H Q ⟨Z, H0, B, F0, F, env, s, p⟩ => by
    refine ⟨Z, H0, B, F0, F, env, s, (Post.bnd (m := ma) (k := blF) p.bnd).imp fun F1 H1 d f1 s1 p1 x rx => ?_⟩
    cases rx with
    | bl k =>
      have p2 := p1.2 F1 H1 (Same.refl _) s1
      exact ⟨k, rfl, p2.2 F1 H1 (Same.refl _) s1 _ (.bl _)⟩
    | _ => cases p1.1
theorem de_if {t : M Bool} {ma mb : M D} (hc : DT X T W c t) (ha : DE X T W a ma) (hb : DE X T W b mb) : DE X T W (.IfExp c a b pos) (iteM t ma mb) :=
  PE.imp (pe_ifExp hc ha hb) fun σ H Q ⟨Z, H0, B, F0, F, env, s, p⟩ => ⟨Z, H0, B, F0, F, env, s, p.bnd.imp fun F1 H1 k f1 s1 p1 => by
    cases k with
    | true => exact iteT ⟨Z, H0, B, F0, F1, _, s1, p1⟩
    | false => exact iteF ⟨Z, H0, B, F0, F1, _, s1, p1⟩⟩
theorem oe_if {t : M Bool} {ma mb : M SV} (hc : DT X T W c t) (ha : OE X T W a ma) (hb : OE X T W b mb) : OE X T W (.IfExp c a b pos) (iteM t ma mb) :=
  PE.imp (pe_ifExp hc ha hb) fun σ H Q ⟨Z, H0, B, F0, F, env, s, p⟩ => ⟨Z, H0, B, F0, F, env, s, p.bnd.imp fun F1 H1 k f1 s1 p1 => by
    cases k with
    | true => exact iteT ⟨Z, H0, B, F0, F1, _, s1, p1⟩
    | false => exact iteF ⟨Z, H0, B, F0, F1, _, s1, p1⟩⟩

/-! ### the comparisons -/
theorem shp_lay {d : D} (h : d.shp = true) : d.py.canLay0 = true := SeqAt.canLay_of_shaped h
theorem r_eq : R2D X T W (rEqD X.K) eqF := fun {Z H0 B F0 F env σ H Q x y u v} s rx ry p => by
  obtain ⟨h1, h2⟩ := Bool.and_eq_true_iff.mp p.1
  have f := s.sub
  exact ⟨u.py, v.py, (rx.mono f).dp (shp_lay h1), (ry.mono f).dp (shp_lay h2), h1, h2, p.2 F H (Same.refl _) s _ (.bl _)⟩
theorem r_ne : R2D X T W (rNeD X.K) neF := fun {Z H0 B F0 F env σ H Q x y u v} s rx ry p => by
  obtain ⟨h1, h2⟩ := Bool.and_eq_true_iff.mp p.1
  have f := s.sub
  exact ⟨u.py, v.py, (rx.mono f).dp (shp_lay h1), (ry.mono f).dp (shp_lay h2), h1, h2, p.2 F H (Same.refl _) s _ (.bl _)⟩
theorem r_cmp {g : Int → Int → Bool} : R2D X T W (rI0 fun i j => .bl (g i j)) (cmpF g) := fun {Z H0 B F0 F env σ H Q x y u v} s rx ry p => by
  cases rx with
  | int i =>
    cases ry with
    | int j => exact ⟨i, j, rfl, rfl, p.2 F H (Same.refl _) s _ (.bl _)⟩
    | _ => cases p.1
  | _ => cases p.1
theorem r_lt : R2D X T W (rI0 fun i j => .bl (decide (i < j))) (cmpF ltP) := r_cmp
theorem r_le : R2D X T W (rI0 fun i j => .bl (decide (i ≤ j))) (cmpF leP) := r_cmp
theorem r_gt : R2D X T W (rI0 fun i j => .bl (decide (j < i))) (cmpF gtP) := r_cmp
theorem r_ge : R2D X T W (rI0 fun i j => .bl (decide (j ≤ i))) (cmpF geP) := r_cmp
/-- is None, is not None, as two-place rules -/
def isF (x y : D) : M D := match y with
  | .non => (match x with
    | .non => ret (.bl true)
    | _ => ret (.bl false))
  | _ => bad
def isNotF (x y : D) : M D := match y with
  | .non => (match x with
    | .non => ret (.bl false)
    | _ => ret (.bl true))
  | _ => bad
theorem r_is : R2D X T W (fun x y H Q => y = .non ∧ Q (.bl (decide (x = .non))) H) isF := fun {Z H0 B F0 F env σ H Q x y u v} s rx ry p => by
  cases ry with
  | non =>
    refine ⟨rfl, ?_⟩
    cases rx with
    | non => exact p.2 F H (Same.refl _) s _ (.bl true)
    | _ => exact p.2 F H (Same.refl _) s _ (.bl false)
  | _ => cases p.1
theorem r_isNot : R2D X T W (fun x y H Q => y = .non ∧ Q (.bl (!decide (x = .non))) H) isNotF := fun {Z H0 B F0 F env σ H Q x y u v} s rx ry p => by
  cases ry with
  | non =>
    refine ⟨rfl, ?_⟩
    cases rx with
    | non => exact p.2 F H (Same.refl _) s _ (.bl false)
    | _ => exact p.2 F H (Same.refl _) s _ (.bl true)
  | _ => cases p.1
theorem flat_rep {F : Hp} {x : V} {u : D} (r : Rep X.K F x u) (h : flatD u = true) : flatV x = true := by
  cases r <;> first | rfl | cases h
theorem eqV_rep {F : Hp} {x y : V} {u v : D} (rx : Rep X.K F x u) (ry : Rep X.K F y v) (hu : flatD u = true) (hv : flatD v = true) : eqV x y = u.beq v := by
  cases rx <;> cases ry <;> first | rfl | cases hu | cases hv
theorem any_rep {F : Hp} {x : V} {u : D} (rx : Rep X.K F x u) (hu : flatD u = true) : ∀ {ds : List D} {vs : List V}, RepAll X.K F vs ds → ds.all flatD = true → vs.all flatV = true ∧ (vs.any fun y => eqV y x) = ds.any fun z => z.beq u
  | [], _, h, _ => by cases h; exact ⟨rfl, rfl⟩
  | d :: ds, _, h, hf => by
    cases h with
    | cons h1 h2 =>
      obtain ⟨f1, f2⟩ := Bool.and_eq_true_iff.mp (show (flatD d && ds.all flatD) = true from hf)
      obtain ⟨q1, q2⟩ := any_rep rx hu h2 f2
      refine ⟨?_, ?_⟩
      · show (flatV _ && _) = true
        rw [flat_rep h1 f1]
        exact q1
      · show (eqV _ x || _) = (d.beq u || _)
        rw [eqV_rep h1 rx f1 hu, q2]
theorem r_in {neg : Bool} : R2D X T W (rIn X.K neg) (inF neg) := fun {Z H0 B F0 F env σ H Q x y u v} s rx ry p => by
  have go : ∀ {ds : List D} {vs : List V} {q : Addr}, RepAll X.K F vs ds → (SqL X.K H q vs ∨ SqT X.K H q vs) → (flatD u && ds.all flatD) = true → (∀ k, k = (if neg then !(ds.any fun z => z.beq u) else ds.any fun z => z.beq u) → Q (.bl k) H) → rIn X.K neg x (.ref q) H Q := fun {ds vs q} h1 h2 h3 h4 => by
    obtain ⟨c1, c2⟩ := Bool.and_eq_true_iff.mp h3
    obtain ⟨q1, q2⟩ := any_rep rx c1 h1 c2
    refine ⟨q, vs, rfl, h2, flat_rep rx c1, q1, h4 _ ?_⟩
    unfold inV
    rw [q2]
  cases ry with
  | @tup q vs ds h1 h2 => exact go h2 (.inr (sameT s.sub h1)) p.1 fun k e => p.2 F H (Same.refl _) s _ (by rw [e]; exact .bl _)
  | @lst q vs ds h1 h2 => exact go h2 (.inl (sameL s.sub h1)) p.1 fun k e => p.2 F H (Same.refl _) s _ (by rw [e]; exact .bl _)
  | _ => cases p.1

/-! ### items, slices -/
theorem len_rep {F : Hp} {ds : List D} {vs : List V} (r : RepAll X.K F vs ds) : vs.length = ds.length := RepAll.length r
theorem at_rep {F : Hp} {ds : List D} {vs : List V} {i : Int} {d : D} (r : RepAll X.K F vs ds) (h : atI ds i = some d) : ∃ v, atI vs i = some v ∧ Rep X.K F v d := by
  unfold atI at h ⊢
  rw [RepAll.length r]
  cases e : ixN ds.length i with
  | none =>
    rw [e] at h
    cases h
  | some j =>
    rw [e] at h
    exact RepAll.get r h
theorem de_ix {ma mb : M D} (ha : DE X T W a ma) (hb : DE X T W b mb) (hs : PlainIx b := by intro _ _; rfl) : DE X T W (.Subscript a b pos) (bin2 atF ma mb) :=
  PE.imp (pe_ix ix_seq ha hb hs) fun σ H Q ⟨Z, H0, B, F0, F, env, s, p⟩ => ⟨Z, H0, B, F0, F, env, s, p.bnd.imp fun F1 H1 d f1 s1 p1 x rx => ⟨Z, H0, B, F0, F1, _, s1, p1.bnd.imp fun F2 H2 ds f2 s2 p2 y ry => by
    have rx2 := rx.mono f2
    unfold atF at p2
    cases ry with
    | int i =>
      cases rx2 with
      | @tup q vs ds h1 h2 =>
        cases e : atI ds i with
        | none =>
          simp only [items, e] at p2
          cases p2.1
        | some d =>
          simp only [items, e] at p2
          obtain ⟨v, e2, rv⟩ := at_rep h2 e
          exact .inr (.inl ⟨q, vs, i, v, rfl, rfl, sameT s2.sub h1, e2, p2.2 F2 H2 (Same.refl _) s2 v rv⟩)
      | @lst q vs ds h1 h2 =>
        cases e : atI ds i with
        | none =>
          simp only [items, e] at p2
          cases p2.1
        | some d =>
          simp only [items, e] at p2
          obtain ⟨v, e2, rv⟩ := at_rep h2 e
          exact .inl ⟨q, vs, i, v, rfl, rfl, sameL s2.sub h1, e2, p2.2 F2 H2 (Same.refl _) s2 v rv⟩
      | _ => cases p2.1
    | _ => cases rx2 <;> cases p2.1⟩⟩
/-- a slice's part -/
def LiftP (K : PySem.W.Frag) (mg : Str → Option Value) (T : Tab) (W : L2.WX) (m : M (Option Int)) : TO := fun σ H Q => ∃ Z H0 B F0 F env, SR K T Z H0 B F0 F env σ H ∧ Post K mg T W Z H0 B F0 F (fun _ H' _ o => Q o H') (m env) σ
abbrev DP (X : Cx) (T : Tab) (W : L2.WX) (e : Option Expr) (m : M (Option Int)) : Prop := PO X e (LiftP X.K X.mg T W m)
theorem dp_none : DP X T W none noPart := ⟨fun pins s σ H Q I ⟨Z, H0, B, F0, F, env, sr, p⟩ => po_none.run pins s σ H Q I (p.2 F H (Same.refl _) sr)⟩
theorem dp_some {m : M D} (h : DE X T W e m) : DP X T W (some e) (part m) := ⟨fun pins s σ H Q I ⟨Z, H0, B, F0, F, env, sr, p⟩ => (po_some h).run pins s σ H Q I ⟨Z, H0, B, F0, F, env, sr, p.bnd.imp fun F1 H1 d f1 s1 p1 x rx => by
  cases rx with
  | int i => exact ⟨i, rfl, p1.2 F1 H1 (Same.refl _) s1⟩
  | _ => cases p1.1⟩⟩
theorem cut_rep {F : Hp} {ds : List D} {vs : List V} {lo hi : Option Int} (r : RepAll X.K F vs ds) : RepAll X.K F (cutV vs lo hi) (cutD ds lo hi) := by
  unfold cutV cutD
  rw [RepAll.length r]
  exact (r.drop _).take _
theorem oe_slice {lo hi : Option Expr} {p2 : Pos} {m : M D} {ml mh : M (Option Int)} (h : DE X T W e m) (hl : DP X T W lo ml) (hh : DP X T W hi mh) : OE X T W (.Subscript e (.Slice lo hi none p2) pos) (slO m ml mh) :=
  PE.imp (pe_slice (sl_list.or sl_tupA) h hl hh) fun σ H Q ⟨Z, H0, B, F0, F, env, s, p⟩ => ⟨Z, H0, B, F0, F, env, s, p.bnd.imp fun F1 H1 d f1 s1 p1 x rx => ⟨Z, H0, B, F0, F1, _, s1, p1.bnd.imp fun F2 H2 l f2 s2 p2 =>
    ⟨Z, H0, B, F0, F2, _, s2, p2.bnd.imp fun F3 H3 u f3 s3 p3 => by
      have rx3 := (rx.mono f2).mono f3
      cases rx3 with
      | @tup q vs ds h1 h2 =>
        refine .inr ⟨q, vs, rfl, sameT s3.sub h1, fun ⟨z1, z2⟩ => ?_, fun _ q hq => ?_⟩
        · have e1 : cutD ds l u = ds := by
            unfold cutD
            rw [← RepAll.length h2, z1, z2, RepAll.length h2]
            simp
          refine p3.2 F3 H3 (Same.refl _) s3 _ (FR.datum ?_)
          rw [e1]
          exact .tup h1 h2
        · obtain ⟨s4, f4⟩ := s3.laidF hq (o := .tup (cutV vs l u)) trivial
          exact p3.2 _ _ f4 s4 _ (FR.datum (.tup (SqT.of upd_same) (RepAll.mono f4 (cut_rep h2))))
      | @lst q vs ds h1 h2 =>
        refine .inl ⟨q, vs, rfl, sameL s3.sub h1, fun q hq => ?_⟩
        exact p3.2 F3 _ (Same.refl _) (s3.laid hq _) _ (s3.fr_new hq (cut_rep h2))
      | _ => cases p3.1⟩⟩⟩

/-! ### built-in calls -/
/-- a rule of arguments, by what it does to data -/
def RAD (X : Cx) (T : Tab) (W : L2.WX) (r : List V → Hp → VK → Prop) (f : List D → M D) : Prop := ∀ {Z H0 : Hp} {B : List Addr} {F0 F : Hp} {env : Ev} {σ : L2.St} {H : Hp} {Q : VK} {xs : List V} {ds : List D}, SR X.K T Z H0 B F0 F env σ H → RepAll X.K F xs ds →
  Post X.K X.mg T W Z H0 B F0 F (fun F' H' _ d => ∀ x, Rep X.K F' x d → Q x H') (f ds env) σ → r xs H Q
def RAO (X : Cx) (T : Tab) (W : L2.WX) (r : List V → Hp → VK → Prop) (f : List D → M SV) : Prop := ∀ {Z H0 : Hp} {B : List Addr} {F0 F : Hp} {env : Ev} {σ : L2.St} {H : Hp} {Q : VK} {xs : List V} {ds : List D}, SR X.K T Z H0 B F0 F env σ H → RepAll X.K F xs ds →
  Post X.K X.mg T W Z H0 B F0 F (fun F' H' env' d => ∀ x, FR X.K T Z H0 B F' H' env' σ d x → Q x H') (f ds env) σ → r xs H Q
section
variable {x : Str} {p : Pos} {es : List Expr} {ma : M (List D)} {id : String} {r : List V → Hp → VK → Prop}
theorem de_callB {f : List D → M D} (hc : CallR X (.builtin id) r) (hr : RAD X T W r f) (hv : bootBuiltins x = some (.builtin id)) (hm : X.mg x = none) (ha : DA X T W (e :: es) ma) (hg : Gl X x := by rfl) (hn : x ≠ "__name__" := by decide) (hdb : (x == ("__debug__" : Str)) = false := by decide)
    (he : starEach (e :: es) X.env = (false, eval e X.env) :: starEach es X.env := by rfl) (hpl : (backTo pos (starEach es X.env)).any (·.1) = false := by rfl) : DE X T W (.Call (.Name x p) (e :: es) [] pos) (bnd ma f) :=
  PE.imp (pe_callB hc hg hm hv ha hn hdb he hpl) fun σ H Q ⟨Z, H0, B, F0, F, env, s, p⟩ => ⟨Z, H0, B, F0, F, env, s, p.bnd.imp fun F1 H1 d f1 s1 p1 xs rx => hr s1 rx p1⟩
theorem oe_callB {f : List D → M SV} (hc : CallR X (.builtin id) r) (hr : RAO X T W r f) (hv : bootBuiltins x = some (.builtin id)) (hm : X.mg x = none) (ha : DA X T W (e :: es) ma) (hg : Gl X x := by rfl) (hn : x ≠ "__name__" := by decide) (hdb : (x == ("__debug__" : Str)) = false := by decide)
    (he : starEach (e :: es) X.env = (false, eval e X.env) :: starEach es X.env := by rfl) (hpl : (backTo pos (starEach es X.env)).any (·.1) = false := by rfl) : OE X T W (.Call (.Name x p) (e :: es) [] pos) (bnd ma f) :=
  PE.imp (pe_callB hc hg hm hv ha hn hdb he hpl) fun σ H Q ⟨Z, H0, B, F0, F, env, s, p⟩ => ⟨Z, H0, B, F0, F, env, s, p.bnd.imp fun F1 H1 d f1 s1 p1 xs rx => hr s1 rx p1⟩
theorem de_callTy {f : List D → M D} (hc : CallR X (.type id) r) (hr : RAD X T W r f) (hv : bootBuiltins x = some (.type id)) (hm : X.mg x = none) (ha : DA X T W (e :: es) ma) (hg : Gl X x := by rfl) (hn : x ≠ "__name__" := by decide) (hdb : (x == ("__debug__" : Str)) = false := by decide)
    (he : starEach (e :: es) X.env = (false, eval e X.env) :: starEach es X.env := by rfl) (hpl : (backTo pos (starEach es X.env)).any (·.1) = false := by rfl) : DE X T W (.Call (.Name x p) (e :: es) [] pos) (bnd ma f) :=
  PE.imp (pe_callTy hc hg hm hv ha hn hdb he hpl) fun σ H Q ⟨Z, H0, B, F0, F, env, s, p⟩ => ⟨Z, H0, B, F0, F, env, s, p.bnd.imp fun F1 H1 d f1 s1 p1 xs rx => hr s1 rx p1⟩
theorem oe_callTy {f : List D → M SV} (hc : CallR X (.type id) r) (hr : RAO X T W r f) (hv : bootBuiltins x = some (.type id)) (hm : X.mg x = none) (ha : DA X T W (e :: es) ma) (hg : Gl X x := by rfl) (hn : x ≠ "__name__" := by decide) (hdb : (x == ("__debug__" : Str)) = false := by decide)
    (he : starEach (e :: es) X.env = (false, eval e X.env) :: starEach es X.env := by rfl) (hpl : (backTo pos (starEach es X.env)).any (·.1) = false := by rfl) : OE X T W (.Call (.Name x p) (e :: es) [] pos) (bnd ma f) :=
  PE.imp (pe_callTy hc hg hm hv ha hn hdb he hpl) fun σ H Q ⟨Z, H0, B, F0, F, env, s, p⟩ => ⟨Z, H0, B, F0, F, env, s, p.bnd.imp fun F1 H1 d f1 s1 p1 xs rx => hr s1 rx p1⟩
end
def lenF : List D → M D
  | [.tup xs] => ret (.int xs.length)
  | [.lst xs] => ret (.int xs.length)
  | [.str x] => tst (decide (x.length ≤ mx)) (.int x.length)
  | _ => bad
theorem rep1 {F : Hp} {xs : List V} {d : D} (r : RepAll X.K F xs [d]) : ∃ x, xs = [x] ∧ Rep X.K F x d := by
  cases r with
  | cons h1 h2 =>
    cases h2
    exact ⟨_, rfl, h1⟩
theorem rep2 {F : Hp} {xs : List V} {d u : D} (r : RepAll X.K F xs [d, u]) : ∃ x y, xs = [x, y] ∧ Rep X.K F x d ∧ Rep X.K F y u := by
  cases r with
  | cons h1 h2 =>
    cases h2 with
    | cons h2 h3 =>
      cases h3
      exact ⟨_, _, rfl, h1, h2⟩
theorem r_len : RAD X T W (fun xs H Q => ∃ x n, xs = [x] ∧ LenV X.K x H n ∧ Q (.int n) H) lenF := fun {Z H0 B F0 F env σ H Q xs ds} s rx p => by
  unfold lenF at p
  split at p
  · obtain ⟨x, rfl, r⟩ := rep1 rx
    cases r with
    | @tup q vs ds h1 h2 =>
      refine ⟨_, vs.length, rfl, .inr ⟨vs, sameT s.sub h1, rfl⟩, p.2 F H (Same.refl _) s _ ?_⟩
      rw [RepAll.length h2]
      exact .int _
  · obtain ⟨x, rfl, r⟩ := rep1 rx
    cases r with
    | @lst q vs ds h1 h2 =>
      refine ⟨_, vs.length, rfl, .inl ⟨vs, sameL s.sub h1, rfl⟩, p.2 F H (Same.refl _) s _ ?_⟩
      rw [RepAll.length h2]
      exact .int _
  · obtain ⟨x, rfl, r⟩ := rep1 rx
    cases r with
    | str z => exact ⟨_, _, rfl, ⟨by rw [mx_eq]; exact of_decide_eq_true p.1, rfl⟩, p.2 F H (Same.refl _) s _ (.int _)⟩
  · cases p.1
def absF : List D → M D
  | [.int i] => ret (.int (if i < 0 then -i else i))
  | _ => bad
theorem r_abs : RAD X T W (fun xs H Q => ∃ i, xs = [.int i] ∧ Q (.int (if i < 0 then -i else i)) H) absF := fun {Z H0 B F0 F env σ H Q xs ds} s rx p => by
  unfold absF at p
  split at p
  · obtain ⟨x, rfl, r⟩ := rep1 rx
    cases r with
    | int i => exact ⟨_, rfl, p.2 F H (Same.refl _) s _ (.int _)⟩
  · cases p.1
def intF : List D → M D
  | [.int i] => ret (.int i)
  | [.bl k] => ret (.int (if k then 1 else 0))
  | _ => bad
theorem r_int : RAD X T W (fun xs H Q => (∃ i, xs = [.int i] ∧ Q (.int i) H) ∨ ∃ k, xs = [.bl k] ∧ Q (.int (if k then 1 else 0)) H) intF := fun {Z H0 B F0 F env σ H Q xs ds} s rx p => by
  unfold intF at p
  split at p
  · obtain ⟨x, rfl, r⟩ := rep1 rx
    cases r with
    | int i => exact .inl ⟨_, rfl, p.2 F H (Same.refl _) s _ (.int _)⟩
  · obtain ⟨x, rfl, r⟩ := rep1 rx
    cases r with
    | bl k => exact .inr ⟨_, rfl, p.2 F H (Same.refl _) s _ (.int _)⟩
  · cases p.1
def blsOf : List D → Option (List Bool)
  | [] => some []
  | .bl b :: r => (blsOf r).map (b :: ·)
  | _ => none
def intsOf : List D → Option (List Int)
  | [] => some []
  | .int b :: r => (intsOf r).map (b :: ·)
  | _ => none
theorem bls_rep {F : Hp} : ∀ {ds : List D} {bs : List Bool} {vs : List V}, blsOf ds = some bs → RepAll X.K F vs ds → vs = bs.map V.bl
  | [], bs, vs, h, r => by
    cases r
    cases h
    rfl
  | d :: ds, bs, vs, h, r => by
    cases r with
    | cons h1 h2 =>
      cases d with
      | bl b =>
        cases e : blsOf ds with
        | none =>
          simp only [blsOf, e] at h
          cases h
        | some bs2 =>
          simp only [blsOf, e, Option.map_some] at h
          cases h
          cases h1
          rw [bls_rep e h2]
          rfl
      | _ => cases h
theorem ints_rep {F : Hp} : ∀ {ds : List D} {bs : List Int} {vs : List V}, intsOf ds = some bs → RepAll X.K F vs ds → vs = bs.map V.int
  | [], bs, vs, h, r => by
    cases r
    cases h
    rfl
  | d :: ds, bs, vs, h, r => by
    cases r with
    | cons h1 h2 =>
      cases d with
      | int b =>
        cases e : intsOf ds with
        | none =>
          simp only [intsOf, e] at h
          cases h
        | some bs2 =>
          simp only [intsOf, e, Option.map_some] at h
          cases h
          cases h1
          rw [ints_rep e h2]
          rfl
      | _ => cases h
def allF : List D → M D
  | [.lst ds] => (match blsOf ds with
    | some bs => ret (.bl (bs.all id))
    | none => bad)
  | _ => bad
def anyF : List D → M D
  | [.lst ds] => (match blsOf ds with
    | some bs => ret (.bl (bs.any id))
    | none => bad)
  | _ => bad
def sumF : List D → M D
  | [.lst ds] => (match intsOf ds with
    | some bs => ret (.int bs.sum)
    | none => bad)
  | _ => bad
theorem r_all : RAD X T W (rAll X.K) allF := fun {Z H0 B F0 F env σ H Q xs ds} s rx p => by
  unfold allF at p
  split at p
  · rename_i zs
    obtain ⟨x, rfl, r⟩ := rep1 rx
    cases r with
    | @lst q vs _ h1 h2 =>
      cases e : blsOf zs with
      | some bs =>
        rw [e] at p
        exact ⟨q, bs, rfl, (by rw [← bls_rep e h2]; exact sameL s.sub h1), p.2 F H (Same.refl _) s _ (.bl _)⟩
      | none =>
        rw [e] at p
        cases p.1
  · cases p.1
theorem r_any : RAD X T W (rAny X.K) anyF := fun {Z H0 B F0 F env σ H Q xs ds} s rx p => by
  unfold anyF at p
  split at p
  · rename_i zs
    obtain ⟨x, rfl, r⟩ := rep1 rx
    cases r with
    | @lst q vs _ h1 h2 =>
      cases e : blsOf zs with
      | some bs =>
        rw [e] at p
        exact ⟨q, bs, rfl, (by rw [← bls_rep e h2]; exact sameL s.sub h1), p.2 F H (Same.refl _) s _ (.bl _)⟩
      | none =>
        rw [e] at p
        cases p.1
  · cases p.1
theorem r_sum : RAD X T W (rSum X.K) sumF := fun {Z H0 B F0 F env σ H Q xs ds} s rx p => by
  unfold sumF at p
  split at p
  · rename_i zs
    obtain ⟨x, rfl, r⟩ := rep1 rx
    cases r with
    | @lst q vs _ h1 h2 =>
      cases e : intsOf zs with
      | some bs =>
        rw [e] at p
        exact ⟨q, bs, rfl, (by rw [← ints_rep e h2]; exact sameL s.sub h1), p.2 F H (Same.refl _) s _ (.int _)⟩
      | none =>
        rw [e] at p
        cases p.1
  · cases p.1
def tupleF : List D → M D
  | [.tup ds] => ret (.tup ds)
  | [.lst ds] => ret (.tup ds)
  | _ => bad
theorem r_tuple : RAD X T W (fun xs H Q => ∃ p ys, xs = [.ref p] ∧ ((SqL X.K H p ys ∧ ∀ l, H l = none → Q (.ref l) (upd H l (.tup ys))) ∨ (SqT X.K H p ys ∧ Q (.ref p) H))) tupleF := fun {Z H0 B F0 F env σ H Q xs ds} s rx p => by
  unfold tupleF at p
  split at p
  · obtain ⟨x, rfl, r⟩ := rep1 rx
    cases r with
    | @tup q vs ds h1 h2 => exact ⟨q, vs, rfl, .inr ⟨sameT s.sub h1, p.2 F H (Same.refl _) s _ (.tup h1 h2)⟩⟩
  · obtain ⟨x, rfl, r⟩ := rep1 rx
    cases r with
    | @lst q vs ds h1 h2 =>
      refine ⟨q, vs, rfl, .inl ⟨sameL s.sub h1, fun l hl => ?_⟩⟩
      obtain ⟨s2, f2⟩ := s.laidF hl (o := .tup vs) trivial
      exact p.2 _ _ f2 s2 _ (.tup (SqT.of upd_same) (RepAll.mono f2 h2))
  · cases p.1
def listF : List D → M SV
  | [.tup ds] => ret (.own 0 ds)
  | [.lst ds] => ret (.own 0 ds)
  | _ => bad
theorem r_list : RAO X T W (fun xs H Q => ∃ p ys, xs = [.ref p] ∧ (SqL X.K H p ys ∨ SqT X.K H p ys) ∧ ∀ l, H l = none → Q (.ref l) (upd H l (.lst ys))) listF := fun {Z H0 B F0 F env σ H Q xs ds} s rx p => by
  unfold listF at p
  split at p
  · obtain ⟨x, rfl, r⟩ := rep1 rx
    cases r with
    | @tup q vs ds h1 h2 => exact ⟨q, vs, rfl, .inr (sameT s.sub h1), fun l hl => p.2 F _ (Same.refl _) (s.laid hl _) _ (s.fr_new hl h2)⟩
  · obtain ⟨x, rfl, r⟩ := rep1 rx
    cases r with
    | @lst q vs ds h1 h2 => exact ⟨q, vs, rfl, .inl (sameL s.sub h1), fun l hl => p.2 F _ (Same.refl _) (s.laid hl _) _ (s.fr_new hl h2)⟩
  · cases p.1
def maxF : List D → M D
  | [.int i, .int j] => ret (.int (if j > i then j else i))
  | _ => bad
def minF : List D → M D
  | [.int i, .int j] => ret (.int (if j < i then j else i))
  | _ => bad
theorem r_max : RAD X T W (fun xs H Q => ∃ i j, xs = [.int i, .int j] ∧ Q (.int (if j > i then j else i)) H) maxF := fun {Z H0 B F0 F env σ H Q xs ds} s rx p => by
  unfold maxF at p
  split at p
  · obtain ⟨x, y, rfl, r1, r2⟩ := rep2 rx
    cases r1
    cases r2
    exact ⟨_, _, rfl, p.2 F H (Same.refl _) s _ (.int _)⟩
  · cases p.1
theorem r_min : RAD X T W (fun xs H Q => ∃ i j, xs = [.int i, .int j] ∧ Q (.int (if j < i then j else i)) H) minF := fun {Z H0 B F0 F env σ H Q xs ds} s rx p => by
  unfold minF at p
  split at p
  · obtain ⟨x, y, rfl, r1, r2⟩ := rep2 rx
    cases r1
    cases r2
    exact ⟨_, _, rfl, p.2 F H (Same.refl _) s _ (.int _)⟩
  · cases p.1
def strF : List D → M D
  | [.int i] => tst (decide (i.natAbs.log2 < 1920)) (.str (toString i))
  | _ => bad
theorem r_str : RAD X T W (fun xs H Q => ∃ i, xs = [.int i] ∧ i.natAbs.log2 < 1920 ∧ Q (.str (toString i)) H) strF := fun {Z H0 B F0 F env σ H Q xs ds} s rx p => by
  unfold strF at p
  split at p
  · obtain ⟨x, rfl, r⟩ := rep1 rx
    cases r with
    | int i => exact ⟨_, rfl, of_decide_eq_true p.1, p.2 F H (Same.refl _) s _ (.str _)⟩
  · cases p.1
end
end DL
set_option maxHeartbeats 1000000
/-! What loops walk: lists, tuples, ranges; zip and enumerate over lists and tuples in any mix. -/
namespace DL
open PySem PySem.Spec PyProof.Rows L2

/-! ### a list or a tuple as a source -/
/-- l: a list (true) or a tuple -/
def ItAt (l : Bool) (h : Heap) (it a : Addr) (i : Nat) : Prop := if l = true then h.IsListIter it a i else h.IsTupleIter it a i
def SeqAtH (l : Bool) (h : Heap) (a : Addr) (its : Array Value) : Prop := if l = true then h.IsList a its else h.IsTuple a its
def Sq (l : Bool) (K : PySem.W.Frag) (H : Hp) (a : Addr) (xs : List V) : Prop := if l = true then SqL K H a xs else SqT K H a xs
def itO (l : Bool) (a : Addr) : Obj := { cls := .type (if l = true then "list_iterator" else "tuple_iterator"), data := .fields #[.ref a, .int 0 0] }
theorem ItAt.obj {l : Bool} {h : Heap} {it a : Addr} {i : Nat} (x : ItAt l h it a i) : ∃ o, h.get? it = some o ∧ ∀ v, o.data ≠ .cell v := by
  cases l with
  | true =>
    obtain ⟨o, e, _, d⟩ := (show h.IsListIter it a i from x)
    exact ⟨o, e, fun v z => by rw [d] at z; cases z⟩
  | false =>
    obtain ⟨o, e, _, d⟩ := (show h.IsTupleIter it a i from x)
    exact ⟨o, e, fun v z => by rw [d] at z; cases z⟩
theorem ItAt.at {l : Bool} {h h' : Heap} {it a : Addr} {i : Nat} (x : ItAt l h it a i) (k : ∀ o, h.get? it = some o → h'.get? it = some o) : ItAt l h' it a i := by
  cases l with
  | true => exact (show h.IsListIter it a i from x).at k
  | false => exact (show h.IsTupleIter it a i from x).at k
theorem SeqAtH.at {l : Bool} {h h' : Heap} {a : Addr} {its : Array Value} (x : SeqAtH l h a its) (k : ∀ o, h.get? a = some o → h'.get? a = some o) : SeqAtH l h' a its := by
  cases l with
  | true => exact (show h.IsList a its from x).at k
  | false => exact (show h.IsTuple a its from x).at k
theorem SeqAtH.lt {l : Bool} {h : Heap} {a : Addr} {its : Array Value} (x : SeqAtH l h a its) : a < h.objs.size := by
  cases l with
  | true =>
    obtain ⟨o, e, _⟩ := (show h.IsList a its from x)
    exact Heap.lt_size e
  | false =>
    obtain ⟨o, e, _⟩ := (show h.IsTuple a its from x)
    exact Heap.lt_size e
theorem sq_at {X : Cx} {pins : List (Addr × Obj)} {σ : L2.St} {H : Hp} {s : Shared} {l : Bool} {a : Addr} {xs : List V} (I : Inv X pins σ H s) (h : Sq l X.K H a xs) : ∃ its : List Value, Vals xs its ∧ SeqAtH l s.heap a its.toArray := by
  cases l with
  | true =>
    obtain ⟨its, r, p, _⟩ := I.list (show SqL X.K H a xs from h)
    exact ⟨its, r, p.isList⟩
  | false =>
    obtain ⟨its, r, p, _⟩ := I.tuple (show SqT X.K H a xs from h)
    exact ⟨its, r, p⟩
theorem sq_begins (l : Bool) (a : Addr) (its : Array Value) : Begins (.ref a) (itO l a) fun h => SeqAtH l h a its := by
  cases l with
  | true => exact begins_list a its
  | false => exact begins_tuple a its
theorem draws_sq {prog : Program} {w : World} {A : Around} (hh : A.handled = none) (l : Bool) (it a : Addr) (hne : a ≠ it) (its : Array Value) :
    Draws prog w A it [it, a] its.size (fun i v => its[i]? = some v) (fun i h => ItAt l h it a i ∧ SeqAtH l h a its) := by
  cases l with
  | true => exact Draws.list hh it a hne its
  | false => exact Draws.tuple hh it a hne its
theorem it0 (l : Bool) (h : Heap) (it a : Addr) (e : h.get? it = some (itO l a)) : ItAt l h it a 0 := by
  cases l with
  | true => exact ⟨_, e, rfl, rfl⟩
  | false => exact ⟨_, e, rfl, rfl⟩

/-! ### zip of two -/
structure ZApart (z TI TO i1 i2 a b : Addr) : Prop where
  s : ZipSep2 z TI TO i1 i2 [i1, a] [i2, b]
  n1 : a ≠ i1
  n2 : b ≠ i2
def ItzM (K : PySem.W.Frag) (l1 l2 : Bool) (a b : Addr) (xs ys : List V) : It :=
  ⟨fun i H => Sq l1 K H a xs ∧ Sq l2 K H b ys ∧ i < min xs.length ys.length, fun i H v H' => ∃ T x y, v = .ref T ∧ H T = none ∧ H' = upd H T (.tup [x, y]) ∧ xs[i]? = some x ∧ ys[i]? = some y, fun i H => Sq l1 K H a xs ∧ Sq l2 K H b ys ∧ i = min xs.length ys.length⟩
theorem turn_zipM {P : Program} {w : World} {K : PySem.W.Frag} {elts : List Expr} {kk : Nat} {tpos : Pos} {l1 l2 : Bool} {a b z TI TO i1 i2 : Addr} {xs ys : List V} (D : ZApart z TI TO i1 i2 a b) :
    Turn P w K (.Tuple elts kk tpos) (ItzM K l1 l2 a b xs ys) [z, TI, TO, i1, i2] z (fun i h => IsZip h z TI TO .none ∧ IsTupOf2 h TI (.ref i1) (.ref i2) ∧ (∃ a1 a2, IsTupOf2 h TO a1 a2) ∧ ItAt l1 h i1 a i ∧ ItAt l2 h i2 b i) where
  mem := by simp
  obj := fun i h st c hc => by
    obtain ⟨hz, hTI, ⟨x, y, hTO⟩, h1, h2⟩ := st
    have e' : c = z ∨ c = TI ∨ c = TO ∨ c = i1 ∨ c = i2 := by simpa using hc
    rcases e' with q | q | q | q | q
    · subst q; exact ⟨_, hz, fun v q => nomatch q⟩
    · subst q; exact ⟨_, hTI, fun v q => nomatch q⟩
    · subst q; exact ⟨_, hTO, fun v q => nomatch q⟩
    · subst q; exact h1.obj
    · subst q; exact h2.obj
  keep := fun i h h' st k => by
    obtain ⟨hz, hTI, ⟨x, y, hTO⟩, h1, h2⟩ := st
    exact ⟨k z (by simp) _ hz, k TI (by simp) _ hTI, ⟨x, y, k TO (by simp) _ hTO⟩, h1.at fun o q => k i1 (by simp) o q, h2.at fun o q => k i2 (by simp) o q⟩
  item := by
    intro X hP hw hK hc i pins s σ H E I hf st hg
    subst hP hw hK
    obtain ⟨hz, hTI, hTO, h1, h2⟩ := st
    obtain ⟨hqx, hqy, hlt⟩ := hg
    obtain ⟨its, rv, p1⟩ := sq_at I hqx
    obtain ⟨its2, rv2, p2⟩ := sq_at I hqy
    have e1 := rv.length
    have e2 := rv2.length
    have hh : X.A.in1.handled = none := I.ok.hd hc
    have szs : ∀ {c : Addr}, c ∈ [z, TI, TO, i1, i2] → c < s.heap.objs.size := fun {c} hcm => by
      have e' : c = z ∨ c = TI ∨ c = TO ∨ c = i1 ∨ c = i2 := by simpa using hcm
      obtain ⟨_, _, hTO⟩ := hTO
      rcases e' with q | q | q | q | q
      · rw [q]; exact Heap.lt_size hz
      · rw [q]; exact Heap.lt_size hTI
      · rw [q]; exact Heap.lt_size hTO
      · rw [q]; obtain ⟨_, e, _⟩ := h1.obj; exact Heap.lt_size e
      · rw [q]; obtain ⟨_, e, _⟩ := h2.obj; exact Heap.lt_size e
    have hzl : z < s.heap.objs.size := szs (by simp)
    obtain ⟨x0, y0, hTO⟩ := hTO
    refine wpAny_pyNext_zipD2_item D.s (draws_sq hh l1 i1 a D.n1 its.toArray) (draws_sq hh l2 i2 b D.n2 its2.toArray) hz hTI hTO ⟨h1, p1⟩ ⟨h2, p2⟩ (by rw [List.size_toArray]; omega) (by rw [List.size_toArray]; omega)
      fun u u2 h' tk hu hu2 z' TO' j1 j2 hT hsz hk => ?_
    refine ⟨_, rfl, wpAny_letOwnedTupleGo_zip (s := { s with heap := h', toks := tk }) z' fun h'' z'' sb => ?_⟩
    obtain ⟨x, hx, ru⟩ : ∃ x, xs[i]? = some x ∧ RelV x u := by
      have q : i < xs.length := by omega
      obtain ⟨u', hu', r'⟩ := rv.get (i := i) (x := xs[i]) (by simp [q])
      have z : its[i]? = some u := by simpa using hu
      rw [hu'] at z
      cases z
      exact ⟨xs[i], by simp [q], r'⟩
    obtain ⟨y, hy, ru2⟩ : ∃ y, ys[i]? = some y ∧ RelV y u2 := by
      have q : i < ys.length := by omega
      obtain ⟨u', hu', r'⟩ := rv2.get (i := i) (x := ys[i]) (by simp [q])
      have z : its2[i]? = some u2 := by simpa using hu2
      rw [hu'] at z
      cases z
      exact ⟨ys[i], by simp [q], r'⟩
    have hT2 : h''.get? s.heap.objs.size = some { cls := .type "tuple", data := .seq #[u, u2] } := (sb.2 _ (Nat.ne_of_gt hzl)).trans hT
    have new : ObjOk X.prog X.w (upd H s.heap.objs.size (.tup [x, y])) h'' s.heap.objs.size (.tup [x, y]) :=
      ⟨by show 2 ≤ sizeLine; decide, [u, u2], .cons ru (.cons ru2 .nil), ⟨_, hT2, rfl, _, rfl⟩⟩
    have I1 : Inv X pins σ (upd H s.heap.objs.size (.tup [x, y])) { s with heap := h'', toks := tk } :=
      I.turnedNew (ch := [z, TI, TO, i1, i2]) (fun c o hb q => (sb.2 c (fun q' => hb (by simp [q']))).trans (hk c o (fun q' => hb (by simp [q'])) (fun q' => hb (by simp [q'])) (fun q' => hb (by simp [q'])) (fun q' => hb (by simp [q'])) q)) hf (Nat.le_refl _) new
    refine ⟨.ref s.heap.objs.size, _, I1, rfl, ⟨_, x, y, rfl, I.hok.fresh (Nat.le_refl _), rfl, hx, hy⟩, ⟨z'', (sb.2 _ D.s.TIz).trans (hk _ _ D.s.TIz D.s.TITO D.s.TIi1 D.s.TIi2 hTI), ⟨u, u2, (sb.2 _ D.s.TOz).trans TO'⟩, j1.1.at fun o q => (sb.2 _ (Ne.symm D.s.zi1)).trans q, j2.1.at fun o q => (sb.2 _ (Ne.symm D.s.zi2)).trans q⟩, fun c hcm => ?_⟩
    rw [upd_ne (Nat.ne_of_lt (szs hcm))]
    exact (hf c hcm).1
  done := by
    intro X hP hw hK hc i pins s σ H E I hf st hg
    subst hP hw hK
    obtain ⟨hz, hTI, hTO, h1, h2⟩ := st
    obtain ⟨hqx, hqy, he⟩ := hg
    obtain ⟨its, rv, p1⟩ := sq_at I hqx
    obtain ⟨its2, rv2, p2⟩ := sq_at I hqy
    have e1 := rv.length
    have e2 := rv2.length
    have hh : X.A.in1.handled = none := I.ok.hd hc
    have G := Goes.zip2 (prog := X.prog) (w := X.w) (A := X.A) (elts := elts) (x1 := kk) (pos := tpos) D.s (draws_sq hh l1 i1 a D.n1 its.toArray) (draws_sq hh l2 i2 b D.n2 its2.toArray)
    subst he
    have st : IsZip s.heap z TI TO .none ∧ IsTupOf2 s.heap TI (.ref i1) (.ref i2) ∧ (∃ a1 a2, IsTupOf2 s.heap TO a1 a2) ∧ (ItAt l1 s.heap i1 a (min its.toArray.size its2.toArray.size) ∧ SeqAtH l1 s.heap a its.toArray) ∧ (ItAt l2 s.heap i2 b (min its.toArray.size its2.toArray.size) ∧ SeqAtH l2 s.heap b its2.toArray) := by
      rw [List.size_toArray, List.size_toArray, ← e1, ← e2]
      exact ⟨hz, hTI, hTO, ⟨h1, p1⟩, ⟨h2, p2⟩⟩
    refine thn (G.stops s (fun s' => Inv X pins σ H s') E st fun h' tk hk htk => ?_) fun r s1 hr => hr
    exact I.turnedL (ch := [z, TI, TO, i1, i2]) (fun c o hb q => hk c o (fun q' => hb (by
      have e' : c = z ∨ c = TO ∨ c = i1 ∨ c = i2 := by simpa using q'
      rcases e' with q | q | q | q <;> simp [q])) q) hf
  self := fun A i s Q E st h => wpAny_pyIter_zip st.1 h
theorem z_apart (N a b : Nat) (ha : a < N) (hb : b < N) : ZApart (N + 4) (N + 2) (N + 3) N (N + 1) a b where
  s := zip_sep2 (N := N) (fp1 := [a]) (fp2 := [b]) (fun c hc => by rw [List.mem_singleton.mp hc]; exact ha) (fun c hc => by rw [List.mem_singleton.mp hc]; exact hb)
  n1 := Nat.ne_of_lt ha
  n2 := Nat.ne_of_lt (Nat.lt_succ_of_lt hb)
def iZipM (K : PySem.W.Frag) (ta : TA) : TI := fun σ H R => ta σ H fun vs H1 => ∃ l1 l2 a b xs ys, vs = [.ref a, .ref b] ∧ Sq l1 K H1 a xs ∧ Sq l2 K H1 b ys ∧ R (ItzM K l1 l2 a b xs ys) H1
theorem pi_zipM {X : Cx} {e e2 : Expr} {ta : TA} {p pos tpos : Pos} {elts : List Expr} {kk : Nat} (hm : X.mg "zip" = none) (ha : PA X [e, e2] ta) (hg : Gl X "zip" := by rfl)
    (hs : starEach [e, e2] X.env = (false, eval e X.env) :: starEach [e2] X.env := by rfl) (hpl : (backTo pos (starEach [e2] X.env)).any (·.1) = false := by rfl) :
    PI X (.Tuple elts kk tpos) (.Call (.Name "zip" p) [e, e2] [] pos) (iZipM X.K ta) := by
  refine ⟨fun pins s σ H R I h => ?_⟩
  refine Call_ (ld_blt I hg hm PyProof.Rows.boot_zip (PyProof.Rows.callWith_type1 (thn (ha.run pos pins s σ H _ I h) fun us s1 ⟨vs, H1, I1, r1, q1⟩ => ?_) hs hpl))
  obtain ⟨l1, l2, a, b, xs, ys, ex, hqx, hqy, q⟩ := q1
  subst ex
  obtain ⟨u1, u2, rfl, r, r'⟩ := vals2 r1
  cases r
  cases r'
  obtain ⟨its, rv, p1⟩ := sq_at I1 hqx
  obtain ⟨its2, rv2, p2⟩ := sq_at I1 hqy
  refine zip_begins2 (sq_begins l1 a its.toArray) (sq_begins l2 b its2.toArray) p1 p2 fun h' hz hTI hTO g1 g2 hsz hk => wpAny_pyIter_zip hz ?_
  have I2 : Inv X pins σ H1 { s1 with heap := h' } := I1.kept (t' := s1.toks) hk
  refine ⟨s1.heap.objs.size + 4, [s1.heap.objs.size + 4, s1.heap.objs.size + 2, s1.heap.objs.size + 3, s1.heap.objs.size, s1.heap.objs.size + 1], _, _, H1, rfl, I2, turn_zipM (z_apart s1.heap.objs.size a b p1.lt p2.lt), ⟨hz, hTI, ⟨_, _, hTO⟩, it0 l1 _ _ _ g1, it0 l2 _ _ _ g2⟩, fun c hcm => ?_, q⟩
  have e' : c = s1.heap.objs.size + 4 ∨ c = s1.heap.objs.size + 2 ∨ c = s1.heap.objs.size + 3 ∨ c = s1.heap.objs.size ∨ c = s1.heap.objs.size + 1 := by simpa using hcm
  have hle : s1.heap.objs.size ≤ c := by
    rcases e' with z | z | z | z | z
    · rw [z]; exact Nat.le_add_right _ _
    · rw [z]; exact Nat.le_add_right _ _
    · rw [z]; exact Nat.le_add_right _ _
    · rw [z]; exact Nat.le_refl _
    · rw [z]; exact Nat.le_add_right _ _
  exact I1.fpOk hle (I1.hok.fresh hle)
/-! ### enumerate of one -/
set_option maxHeartbeats 4000000 in
theorem meets_enum1 {v : Value} {o : Obj} {H : Heap → Prop} (B : Begins v o H) :
    Meets (Builtin.«enumerate.__new__» ⟨[.type "enumerate", v], []⟩) (fun _ R s => H s.heap ∧
      R (.ok (.ret (.ref (s.heap.push o).objs.size))) { s with heap := (s.heap.push o).push { cls := .type "enumerate", data := .fields #[.none, .bool false, .ref s.heap.objs.size, rawInt 0, .none, .none] } }) :=
  .of_wp fun prog w A R s h => by
    obtain ⟨hp, g, d, tk, os⟩ := s
    obtain ⟨h1, h⟩ := h
    have hsub := sub_enumerate
    have q1 : ∀ {A' : Around} {E : Value → Shared → Prop} {Q : Value → Shared → Prop}, Q (.ref hp.objs.size) ⟨hp.push o, g, d, tk, os⟩ → wpAny (model prog w) A' (pyIter v) Q E ⟨hp, g, d, tk, os⟩ :=
      fun q => B.iter prog w _ _ ⟨hp, g, d, tk, os⟩ _ h1 q
    wp_walk using q1
    refine wpAny_stack_any fun st => wpAny_pure ?_
    split
    · rename_i c _ _ _ _ _
      cases (c == Value.type "enumerate") <;> (wp_walk using q1; exact ⟨_, rfl, h⟩)
    · wp_walk using q1
      exact ⟨_, rfl, h⟩
theorem enum1_begins {prog : Program} {w : World} {A : Around} {E : Value → Shared → Prop} {s : Shared} {v : Value} {o : Obj} {H : Heap → Prop} {Q : Value → Shared → Prop} (B : Begins v o H) (h1 : H s.heap)
    (h : ∀ h', IsEnum h' (s.heap.objs.size + 1) s.heap.objs.size 0 .none → h'.get? s.heap.objs.size = some o → h'.objs.size = s.heap.objs.size + 2 →
      (∀ b o, s.heap.get? b = some o → h'.get? b = some o) → Q (.ref (s.heap.objs.size + 1)) { s with heap := h' }) :
    wpAny (model prog w) A (call (.type "enumerate") [v]) Q E s := by
  refine callType_new F.called_enumerate (by decide) (F.typeCall_enumerate_1 _) (F.newCall_enumerate_1 _) (fun obj => F.args_object_init_2 obj _) F.entry_enumerate_new (meets_enum1 B) ⟨h1, ?_⟩
  have sz : (s.heap.push o).objs.size = s.heap.objs.size + 1 := Heap.size_push ..
  have he := Heap.get?_push_size (s.heap.push o) (o := { cls := .type "enumerate", data := .fields #[.none, .bool false, .ref s.heap.objs.size, rawInt 0, .none, .none] }) rfl
  rw [sz] at he
  show _ ∧ Q (.ref (s.heap.push o).objs.size) _
  rw [sz]
  exact ⟨⟨_, he, rfl⟩, h _ he (Heap.get?_push_of_some _ (Heap.get?_push_size _ B.free)) (by rw [Heap.size_push, sz]) fun b o x => Heap.get?_push_of_some _ (Heap.get?_push_of_some _ x)⟩
def IteM (K : PySem.W.Frag) (l : Bool) (a : Addr) (xs : List V) : It :=
  ⟨fun i H => Sq l K H a xs ∧ i < xs.length, fun i H v H' => ∃ T x, v = .ref T ∧ H T = none ∧ H' = upd H T (.tup [.int (i : Nat), x]) ∧ xs[i]? = some x, fun i H => Sq l K H a xs ∧ i = xs.length⟩
theorem turn_enumM {P : Program} {w : World} {K : PySem.W.Frag} {elts : List Expr} {kk : Nat} {tpos : Pos} {l : Bool} {a e it : Addr} {xs : List V} (hei : e ≠ it) (hea : e ≠ a) (hai : a ≠ it) :
    Turn P w K (.Tuple elts kk tpos) (IteM K l a xs) [e, it] e (fun i h => (∃ old, IsEnum h e it (i : Nat) old) ∧ ItAt l h it a i) where
  mem := by simp
  obj := fun i h st c hc => by
    obtain ⟨⟨old, he⟩, h1⟩ := st
    have e' : c = e ∨ c = it := by simpa using hc
    rcases e' with q | q
    · subst q; exact ⟨_, he, fun v q => nomatch q⟩
    · subst q; exact h1.obj
  keep := fun i h h' st k => by
    obtain ⟨⟨old, he⟩, h1⟩ := st
    exact ⟨⟨old, k e (by simp) _ he⟩, h1.at fun o q => k it (by simp) o q⟩
  item := by
    intro X hP hw hK hc i pins s σ H E I hf st hg
    subst hP hw hK
    obtain ⟨⟨old, he⟩, h1⟩ := st
    obtain ⟨hq, hlt⟩ := hg
    obtain ⟨its, rv, p1⟩ := sq_at I hq
    have e1 := rv.length
    have hh : X.A.in1.handled = none := I.ok.hd hc
    have hel : e < s.heap.objs.size := Heap.lt_size he
    have hil : it < s.heap.objs.size := by obtain ⟨_, q, _⟩ := h1.obj; exact Heap.lt_size q
    refine wpAny_pyNext_enum_itemC (draws_sq hh l it a hai its.toArray) he ⟨h1, p1⟩ (by rw [List.size_toArray]; omega) hei (by simp [hei, hea]) fun u h' tk hu ho j1 hT hsz hk => ?_
    refine ⟨_, rfl, wpAny_letOwnedTupleGo_enum (s := { s with heap := h', toks := tk + 1 }) ho fun h'' z'' sb => ?_⟩
    obtain ⟨x, hx, ru⟩ : ∃ x, xs[i]? = some x ∧ RelV x u := by
      obtain ⟨u', hu', r'⟩ := rv.get (i := i) (x := xs[i]) (by simp [hlt])
      have z : its[i]? = some u := by simpa using hu
      rw [hu'] at z
      cases z
      exact ⟨xs[i], by simp [hlt], r'⟩
    have hT2 : h''.get? s.heap.objs.size = some { cls := .type "tuple", data := .seq #[.int (i : Nat) tk, u] } := (sb.2 _ (Nat.ne_of_gt hel)).trans hT
    have new : ObjOk X.prog X.w (upd H s.heap.objs.size (.tup [.int (i : Nat), x])) h'' s.heap.objs.size (.tup [.int (i : Nat), x]) :=
      ⟨by show 2 ≤ sizeLine; decide, [.int (i : Nat) tk, u], .cons ⟨tk, rfl⟩ (.cons ru .nil), ⟨_, hT2, rfl, _, rfl⟩⟩
    have I1 : Inv X pins σ (upd H s.heap.objs.size (.tup [.int (i : Nat), x])) { s with heap := h'', toks := tk + 1 } :=
      I.turnedNew (ch := [e, it]) (fun c o hb q => (sb.2 c (fun q' => hb (by simp [q']))).trans (hk c o (fun q' => hb (by simp [q'])) (fun q' => hb (by simp [q'])) q)) hf (Nat.le_refl _) new
    refine ⟨.ref s.heap.objs.size, _, I1, rfl, ⟨_, x, rfl, I.hok.fresh (Nat.le_refl _), rfl, hx⟩, ⟨⟨u, ?_⟩, j1.1.at fun o q => (sb.2 _ (Ne.symm hei)).trans q⟩, fun c hcm => ?_⟩
    · have q : (((i + 1 : Nat) : Nat) : Int) = (i : Int) + 1 := by omega
      rw [q]
      exact z''
    · have e' : c = e ∨ c = it := by simpa using hcm
      have hlt : c < s.heap.objs.size := by
        rcases e' with q | q
        · rw [q]; exact hel
        · rw [q]; exact hil
      rw [upd_ne (Nat.ne_of_lt hlt)]
      exact (hf c hcm).1
  done := by
    intro X hP hw hK hc i pins s σ H E I hf st hg
    subst hP hw hK
    obtain ⟨⟨old, he⟩, h1⟩ := st
    obtain ⟨hq, hi⟩ := hg
    obtain ⟨its, rv, p1⟩ := sq_at I hq
    have e1 := rv.length
    have hh : X.A.in1.handled = none := I.ok.hd hc
    subst hi
    have hs : ItAt l s.heap it a its.toArray.size ∧ SeqAtH l s.heap a its.toArray := by
      rw [List.size_toArray, ← e1]
      exact ⟨h1, p1⟩
    refine wpAny_pyNext_enum_endD (draws_sq hh l it a hai its.toArray) he hs fun h' hx => ⟨rfl, I.turnedL (t' := s.toks) (ch := [e, it]) (fun c o hb q => hx c o (fun q' => hb (by simp [q'])) q) hf⟩
  self := fun A i s Q E st h => by
    obtain ⟨⟨old, he⟩, _⟩ := st
    exact wpAny_pyIter_enum he h
def iEnumM (K : PySem.W.Frag) (ta : TA) : TI := fun σ H R => ta σ H fun vs H1 => ∃ l a xs, vs = [.ref a] ∧ Sq l K H1 a xs ∧ R (IteM K l a xs) H1
theorem pi_enumM {X : Cx} {e : Expr} {ta : TA} {p pos tpos : Pos} {elts : List Expr} {kk : Nat} (hm : X.mg "enumerate" = none) (ha : PA X [e] ta) (hg : Gl X "enumerate" := by rfl) (hs : starEach [e] X.env = [(false, eval e X.env)] := by rfl) :
    PI X (.Tuple elts kk tpos) (.Call (.Name "enumerate" p) [e] [] pos) (iEnumM X.K ta) := by
  refine ⟨fun pins s σ H R I h => ?_⟩
  refine Call_ (ld_blt I hg hm (show bootBuiltins ("enumerate" : Str) = some (.type "enumerate") by decide +kernel) (PyProof.Rows.callWith_type1 (thn (ha.run pos pins s σ H _ I h) fun us s1 ⟨vs, H1, I1, r1, q1⟩ => ?_) hs rfl))
  obtain ⟨l, a, xs, ex, hq, q⟩ := q1
  subst ex
  obtain ⟨u1, rfl, r⟩ := vals1 r1
  cases r
  obtain ⟨its, rv, p1⟩ := sq_at I1 hq
  refine enum1_begins (sq_begins l a its.toArray) p1 fun h' he g1 hsz hk => wpAny_pyIter_enum he ?_
  have I2 : Inv X pins σ H1 { s1 with heap := h' } := I1.kept (t' := s1.toks) hk
  have la := p1.lt
  refine ⟨s1.heap.objs.size + 1, [s1.heap.objs.size + 1, s1.heap.objs.size], _, _, H1, rfl, I2, turn_enumM (e := s1.heap.objs.size + 1) (it := s1.heap.objs.size) (a := a) (Nat.succ_ne_self _) (Nat.ne_of_gt (Nat.lt_succ_of_lt la)) (Nat.ne_of_lt la), ⟨⟨_, he⟩, it0 l _ _ _ g1⟩, fun c hcm => ?_, q⟩
  have e' : c = s1.heap.objs.size + 1 ∨ c = s1.heap.objs.size := by simpa using hcm
  have hle : s1.heap.objs.size ≤ c := by
    rcases e' with z | z
    · rw [z]; exact Nat.le_succ _
    · rw [z]; exact Nat.le_refl _
  exact I1.fpOk hle (I1.hok.fresh hle)
end DL
set_option maxHeartbeats 1000000
/-! Loops, comprehensions, statements. -/
namespace DL
open PySem PySem.Spec PyProof.Rows L2

/-! ### what the pieces do -/
def seqI (m : M D) : M (List D) := bnd m fun d => match items d with
  | some xs => ret xs
  | none => bad
def range1F : List D → M (List D)
  | [.int n] => fun e => ⟨.ok ((List.range n.toNat).map fun i => .int (0 + (i : Nat))), e, decide (-(2 ^ 62) ≤ n ∧ n < 2 ^ 62)⟩
  | _ => bad
def range2F : List D → M (List D)
  | [.int a, .int b] => fun e => ⟨.ok ((List.range (b - a).toNat).map fun i => .int (a + (i : Nat))), e, decide (-(2 ^ 62) ≤ a ∧ a < 2 ^ 62 ∧ -(2 ^ 62) ≤ b ∧ b < 2 ^ 62)⟩
  | _ => bad
def zipD : List D → List D → List D
  | x :: xs, y :: ys => .tup [x, y] :: zipD xs ys
  | _, _ => []
def zipF : List D → M (List D)
  | [x, y] => (match items x, items y with
    | some xs, some ys => ret (zipD xs ys)
    | _, _ => bad)
  | _ => bad
def enumD : Nat → List D → List D
  | i, x :: xs => .tup [.int (i : Nat), x] :: enumD (i + 1) xs
  | _, [] => []
def enumF : List D → M (List D)
  | [x] => (match items x with
    | some xs => ret (enumD 0 xs)
    | none => bad)
  | _ => bad
/-- targets -/
abbrev MT := D → Ev → Option Ev
def nameT (i : Nat) : MT := fun d e => some (e.set i (some (.d d)))
abbrev MTs := List D → Ev → Option Ev
def nilT : MTs := fun ds e => match ds with
  | [] => some e
  | _ => none
def consT (t : MT) (r : MTs) : MTs := fun ds e => match ds with
  | d :: ds => (t d e).bind fun e1 => r ds e1
  | [] => none
def forL (tg : MT) (body : MS) : List D → MS
  | [], env => ⟨.next, env, true⟩
  | x :: r, env => (match tg x env with
    | none => ⟨.next, env, false⟩
    | some e1 => (match body e1 with
      | ⟨.next, e2, g⟩ => (match forL tg body r e2 with
        | ⟨f, e3, g2⟩ => ⟨f, e3, g && g2⟩)
      | ⟨.cont, e2, g⟩ => (match forL tg body r e2 with
        | ⟨f, e3, g2⟩ => ⟨f, e3, g && g2⟩)
      | ⟨.brk, e2, g⟩ => ⟨.next, e2, g⟩
      | ⟨.ret v, e2, g⟩ => ⟨.ret v, e2, g⟩
      | ⟨.exc v, e2, g⟩ => ⟨.exc v, e2, g⟩))
def forS (it : M (List D)) (tg : MT) (body : MS) : MS := bndS it fun xs => forL tg body xs
def whileL (t : M Bool) (body : MS) : Nat → MS
  | 0, env => ⟨.next, env, false⟩
  | n + 1, env => (match t env with
    | ⟨.ok true, e1, g⟩ => (match body e1 with
      | ⟨.next, e2, g2⟩ => (match whileL t body n e2 with
        | ⟨f, e3, g3⟩ => ⟨f, e3, g && (g2 && g3)⟩)
      | ⟨.cont, e2, g2⟩ => (match whileL t body n e2 with
        | ⟨f, e3, g3⟩ => ⟨f, e3, g && (g2 && g3)⟩)
      | ⟨.brk, e2, g2⟩ => ⟨.next, e2, g && g2⟩
      | ⟨.ret v, e2, g2⟩ => ⟨.ret v, e2, g && g2⟩
      | ⟨.exc v, e2, g2⟩ => ⟨.exc v, e2, g && g2⟩)
    | ⟨.ok false, e1, g⟩ => ⟨.next, e1, g⟩
    | ⟨.error x, e1, g⟩ => ⟨.exc x, e1, g⟩)
def whileS (fuel : Ev → Nat) (t : M Bool) (body : MS) : MS := fun env => whileL t body (fuel env) env
def wipeE (own : List Nat) (e : Ev) : Ev := own.foldr (fun i e => e.set i none) e
def dOnly : Option SV → Option SV
  | some (.d d) => some (.d d)
  | _ => none
/-- behind a comprehension: its own names are the def's again (data alone are kept) -/
def restE (own : List Nat) (e0 e : Ev) : Ev := own.foldr (fun i e => e.set i (match e0[i]? with
  | some v => dOnly v
  | none => none)) e
def lcL (own : List Nat) (tg : MT) (tt : M Bool) (elt : M D) : List D → List D → M (List D)
  | [], acc, env => ⟨.ok acc, env, true⟩
  | x :: r, acc, env => (match tg x (wipeE own env) with
    | none => ⟨.error default, env, false⟩
    | some e1 => (match tt e1 with
      | ⟨.ok true, e2, g⟩ => (match elt e2 with
        | ⟨.ok d, e3, g2⟩ => (match lcL own tg tt elt r (acc ++ [d]) e3 with
          | ⟨v, e4, g3⟩ => ⟨v, e4, g && (g2 && (decide (acc.length < mx) && g3))⟩)
        | ⟨.error _, e3, _⟩ => ⟨.error default, e3, false⟩)
      | ⟨.ok false, e2, g⟩ => (match lcL own tg tt elt r acc e2 with
        | ⟨v, e4, g3⟩ => ⟨v, e4, g && g3⟩)
      | ⟨.error _, e2, _⟩ => ⟨.error default, e2, false⟩))
def yesT : M Bool := ret true
def lcF (own : List Nat) (tg : MT) (tt : M Bool) (elt : M D) (xs : List D) : M SV := fun env => match lcL own tg tt elt xs [] (wipeE own env) with
  | ⟨.ok acc, e2, g⟩ => ⟨.ok (.own 0 acc), restE own env e2, g⟩
  | ⟨.error _, e2, _⟩ => ⟨.error default, e2, false⟩
def lcO (own : List Nat) (it : M (List D)) (tg : MT) (tt : M Bool) (elt : M D) : M SV := bnd it fun xs => lcF own tg tt elt xs

/-! ### iterables -/
/-- what walks gives the data xs -/
def IterOk (K : PySem.W.Frag) (J : It) (xs : List D) (F Zp : Hp) : Prop := ∃ G Y, Walk J xs.length G Y ∧ (∀ H, Same F H → Same Zp H → G H) ∧
  ∀ i H v H', i < xs.length → Y i H v H' → ∀ T Z H0 B F0 F1 env σ, Same F F1 → SR K T Z H0 B F0 F1 env σ H → ∃ F2 d, Same F1 F2 ∧ SR K T Z H0 B F0 F2 env σ H' ∧ xs[i]? = some d ∧ Rep K F2 v d
def LiftI (K : PySem.W.Frag) (mg : Str → Option Value) (T : Tab) (W : L2.WX) (m : M (List D)) : TI := fun σ H R => ∃ Z H0 B F0 F env, SR K T Z H0 B F0 F env σ H ∧ Post K mg T W Z H0 B F0 F (fun F' H' _ xs => ∀ J, IterOk K J xs F' Z → R J H') (m env) σ
abbrev DI (X : Cx) (T : Tab) (W : L2.WX) (tg it : Expr) (m : M (List D)) : Prop := PI X tg it (LiftI X.K X.mg T W m)
theorem PI.imp {X : Cx} {tg it : Expr} {t u : TI} (h : PI X tg it t) (i : ∀ σ H R, u σ H R → t σ H R) : PI X tg it u := ⟨fun pins s σ H R I q => h.run pins s σ H R I (i σ H R q)⟩
theorem PI.or {X : Cx} {tg it : Expr} {t u : TI} (h : PI X tg it t) (g : PI X tg it u) : PI X tg it (fun σ H R => t σ H R ∨ u σ H R) := ⟨fun pins s σ H R I q => q.elim (h.run pins s σ H R I) (g.run pins s σ H R I)⟩
section
variable {X : Cx} {T : Tab} {W : L2.WX} {a b c e tg : Expr} {pos : Pos}
theorem iter_list {K : PySem.W.Frag} {q : Addr} {vs : List V} {ds : List D} {F Zp : Hp} (h1 : SqL K F q vs) (h2 : RepAll K F vs ds) : IterOk K (Itl K q) ds F Zp := by
  refine ⟨_, _, by rw [← RepAll.length h2]; exact walk_list (xs := vs), fun H f _ => sameL f h1, fun i H v H' hi y T Z H0 B F0 F1 env σ f s => ?_⟩
  obtain ⟨rfl, y⟩ := y
  obtain ⟨d, e, r⟩ := RepAll.getV h2 y
  exact ⟨F1, d, Same.refl _, s, e, r.mono f⟩
theorem iter_tup {K : PySem.W.Frag} {q : Addr} {vs : List V} {ds : List D} {F Zp : Hp} (h1 : SqT K F q vs) (h2 : RepAll K F vs ds) : IterOk K (Itt K q) ds F Zp := by
  refine ⟨_, _, by rw [← RepAll.length h2]; exact walk_tup (xs := vs), fun H f _ => sameT f h1, fun i H v H' hi y T Z H0 B F0 F1 env σ f s => ?_⟩
  obtain ⟨rfl, y⟩ := y
  obtain ⟨d, e, r⟩ := RepAll.getV h2 y
  exact ⟨F1, d, Same.refl _, s, e, r.mono f⟩
theorem di_seq {m : M D} (h : DE X T W e m) : DI X T W tg e (seqI m) := PI.imp (PI.or (pi_list h) (pi_tup h)) fun σ H R ⟨Z, H0, B, F0, F, env, s, p⟩ => by
  have pb := p.bnd
  cases q : (m env).val with
  | error x =>
    refine .inl ⟨Z, H0, B, F0, F, env, s, pb.1, ?_⟩
    have p2 := pb.2
    rw [q] at p2 ⊢
    exact p2
  | ok d =>
    have p2 := pb.2
    rw [q] at p2
    have keep : ∀ {Rr : Hp → Hp → Ev → D → Prop}, (∀ F' H', Same F F' → SR X.K T Z H0 B F0 F' (m env).env σ H' → Rr F' H' (m env).env d) → Post X.K X.mg T W Z H0 B F0 F Rr (m env) σ := fun {Rr} k => ⟨pb.1, by rw [q]; exact k⟩
    cases d with
    | lst ds =>
      refine .inl ⟨Z, H0, B, F0, F, env, s, keep fun F' H' f s' x rx => ?_⟩
      have p3 := p2 F' H' f s'
      cases rx with
      | @lst q vs _ h1 h2 => exact ⟨q, rfl, ⟨vs, sameL s'.sub h1⟩, p3.2 F' H' (Same.refl _) s' _ (iter_list h1 h2)⟩
    | tup ds =>
      refine .inr ⟨Z, H0, B, F0, F, env, s, keep fun F' H' f s' x rx => ?_⟩
      have p3 := p2 F' H' f s'
      cases rx with
      | @tup q vs _ h1 h2 => exact ⟨q, rfl, ⟨vs, sameT s'.sub h1⟩, p3.2 F' H' (Same.refl _) s' _ (iter_tup h1 h2)⟩
    | _ => exact .inl ⟨Z, H0, B, F0, F, env, s, keep fun F' H' f s' x rx => absurd (p2 F' H' f s').1 (by intro z; cases z)⟩
theorem iter_range {K : PySem.W.Frag} {lo : Int} {n : Nat} {F Zp : Hp} : IterOk K (Itr lo n) ((List.range n).map fun i => D.int (lo + (i : Nat))) F Zp := by
  refine ⟨_, _, by rw [List.length_map, List.length_range]; exact walk_range, fun _ _ _ => trivial, fun i H v H' hi y T Z H0 B F0 F1 env σ f s => ?_⟩
  obtain ⟨rfl, rfl⟩ := y
  rw [List.length_map, List.length_range] at hi
  exact ⟨F1, _, Same.refl _, s, by rw [List.getElem?_map, List.getElem?_range hi]; rfl, .int _⟩
theorem di_range1 {m : M (List D)} (hm : X.mg "range" = none) (ha : DA X T W [a] m) {p : Pos} (hg : Gl X "range" := by rfl) (hs : starEach [a] X.env = [(false, eval a X.env)] := by rfl) : DI X T W tg (.Call (.Name "range" p) [a] [] pos) (bnd m range1F) :=
  PI.imp (pi_range1 hg hm ha hs) fun σ H R ⟨Z, H0, B, F0, F, env, s, p⟩ => ⟨Z, H0, B, F0, F, env, s, p.bnd.imp fun F1 H1 ds f1 s1 p1 xs rx => by
    unfold range1F at p1
    split at p1
    · obtain ⟨x, rfl, r⟩ := rep1 rx
      cases r with
      | int n =>
        obtain ⟨c1, c2⟩ := of_decide_eq_true p1.1
        exact ⟨_, rfl, c1, c2, p1.2 F1 H1 (Same.refl _) s1 _ iter_range⟩
    · cases p1.1⟩
theorem di_range2 {m : M (List D)} (hm : X.mg "range" = none) (ha : DA X T W [a, b] m) {p : Pos} (hg : Gl X "range" := by rfl) (hs : starEach [a, b] X.env = [(false, eval a X.env), (false, eval b X.env)] := by rfl) (hs2 : starEach [b] X.env = [(false, eval b X.env)] := by rfl) : DI X T W tg (.Call (.Name "range" p) [a, b] [] pos) (bnd m range2F) :=
  PI.imp (pi_range2 hg hm ha hs hs2) fun σ H R ⟨Z, H0, B, F0, F, env, s, p⟩ => ⟨Z, H0, B, F0, F, env, s, p.bnd.imp fun F1 H1 ds f1 s1 p1 xs rx => by
    unfold range2F at p1
    split at p1
    · obtain ⟨x, y, rfl, r, r2⟩ := rep2 rx
      cases r with
      | int n =>
        cases r2 with
        | int k => exact ⟨_, _, rfl, of_decide_eq_true p1.1, p1.2 F1 H1 (Same.refl _) s1 _ iter_range⟩
    · cases p1.1⟩
theorem items_rep {F : Hp} {v : V} {d : D} {xs : List D} (r : Rep X.K F v d) (h : items d = some xs) : ∃ l q vs, v = .ref q ∧ (∀ G, Same F G → Sq l X.K G q vs) ∧ RepAll X.K F vs xs := by
  cases r with
  | tup h1 h2 =>
    cases h
    exact ⟨false, _, _, rfl, fun G f => sameT f h1, h2⟩
  | lst h1 h2 =>
    cases h
    exact ⟨true, _, _, rfl, fun G f => sameL f h1, h2⟩
  | _ => cases h
theorem zipD_len : ∀ xs ys : List D, (zipD xs ys).length = min xs.length ys.length
  | [], ys => by simp [zipD]
  | x :: xs, [] => by simp [zipD]
  | x :: xs, y :: ys => by
    show (zipD xs ys).length + 1 = _
    rw [zipD_len xs ys, List.length_cons, List.length_cons]
    omega
theorem zipD_get : ∀ {xs ys : List D} {i : Nat} {x y : D}, xs[i]? = some x → ys[i]? = some y → (zipD xs ys)[i]? = some (.tup [x, y])
  | [], _, _, _, _, h, _ => by simp at h
  | _ :: _, [], _, _, _, _, h => by simp at h
  | x :: xs, y :: ys, 0, _, _, h, g => by
    simp at h g
    subst h g
    rfl
  | x :: xs, y :: ys, i + 1, _, _, h, g => zipD_get (xs := xs) (ys := ys) (i := i) (by simpa using h) (by simpa using g)
theorem enumD_len : ∀ (k : Nat) (xs : List D), (enumD k xs).length = xs.length
  | k, [] => rfl
  | k, x :: xs => by
    show (enumD (k + 1) xs).length + 1 = xs.length + 1
    rw [enumD_len]
theorem enumD_get : ∀ {k : Nat} {xs : List D} {i : Nat} {x : D}, xs[i]? = some x → (enumD k xs)[i]? = some (.tup [.int ((k + i : Nat) : Int), x])
  | _, [], _, _, h => by simp at h
  | k, x :: xs, 0, _, h => by
    simp at h
    subst h
    rfl
  | k, x :: xs, i + 1, _, h => by
    have q := enumD_get (k := k + 1) (xs := xs) (i := i) (by simpa using h)
    have e : k + 1 + i = k + (i + 1) := by omega
    rw [e] at q
    exact q
theorem di_zip {e2 : Expr} {m : M (List D)} {elts : List Expr} {kk : Nat} {p pos tpos : Pos} (hm : X.mg "zip" = none) (ha : DA X T W [e, e2] m) (hg : Gl X "zip" := by rfl)
    (hs : starEach [e, e2] X.env = (false, eval e X.env) :: starEach [e2] X.env := by rfl) (hpl : (backTo pos (starEach [e2] X.env)).any (·.1) = false := by rfl) : DI X T W (.Tuple elts kk tpos) (.Call (.Name "zip" p) [e, e2] [] pos) (bnd m zipF) :=
  PI.imp (pi_zipM hm ha hg hs hpl) fun σ H R ⟨Z, H0, B, F0, F, env, s, p⟩ => ⟨Z, H0, B, F0, F, env, s, p.bnd.imp fun F1 H1 ds f1 s1 p1 xs rx => by
    unfold zipF at p1
    split at p1
    · rename_i d1 d2
      obtain ⟨x, y, rfl, r, r2⟩ := rep2 rx
      cases e1 : items d1 with
      | none =>
        rw [e1] at p1
        cases p1.1
      | some as =>
        cases e2 : items d2 with
        | none =>
          rw [e1, e2] at p1
          cases p1.1
        | some bs =>
          rw [e1, e2] at p1
          obtain ⟨l1, q1, vs1, rfl, g1, ra⟩ := items_rep r e1
          obtain ⟨l2, q2, vs2, rfl, g2, rb⟩ := items_rep r2 e2
          refine ⟨l1, l2, q1, q2, vs1, vs2, rfl, g1 _ s1.sub, g2 _ s1.sub, p1.2 F1 H1 (Same.refl _) s1 _ ?_⟩
          refine ⟨fun G => Sq l1 X.K G q1 vs1 ∧ Sq l2 X.K G q2 vs2, fun i H v H' => ∃ T x y, v = .ref T ∧ H T = none ∧ H' = upd H T (.tup [x, y]) ∧ vs1[i]? = some x ∧ vs2[i]? = some y, ?_, fun G f _ => ⟨g1 G f, g2 G f⟩, ?_⟩
          · rw [zipD_len, ← RepAll.length ra, ← RepAll.length rb]
            exact ⟨fun i G hi q => ⟨q.1, q.2, hi⟩, fun G q => ⟨q.1, q.2, rfl⟩, fun i G x G' hi q y => y⟩
          · intro i G v G' hi y T Z H0 B F0 F2 env2 σ2 f2 s2
            obtain ⟨t, vx, vy, rfl, ht, rfl, hx, hy⟩ := y
            obtain ⟨dx, ex, rdx⟩ := RepAll.getV ra hx
            obtain ⟨dy, ey, rdy⟩ := RepAll.getV rb hy
            obtain ⟨s3, f3⟩ := s2.laidF ht (o := .tup [vx, vy]) trivial
            exact ⟨_, _, f3, s3, zipD_get ex ey, .tup (SqT.of upd_same) (.cons (rdx.mono (f2.trans f3)) (.cons (rdy.mono (f2.trans f3)) .nil))⟩
    · cases p1.1⟩
theorem di_enum {m : M (List D)} {elts : List Expr} {kk : Nat} {p pos tpos : Pos} (hm : X.mg "enumerate" = none) (ha : DA X T W [e] m) (hg : Gl X "enumerate" := by rfl) (hs : starEach [e] X.env = [(false, eval e X.env)] := by rfl) : DI X T W (.Tuple elts kk tpos) (.Call (.Name "enumerate" p) [e] [] pos) (bnd m enumF) :=
  PI.imp (pi_enumM hm ha hg hs) fun σ H R ⟨Z, H0, B, F0, F, env, s, p⟩ => ⟨Z, H0, B, F0, F, env, s, p.bnd.imp fun F1 H1 ds f1 s1 p1 xs rx => by
    unfold enumF at p1
    split at p1
    · rename_i d1
      obtain ⟨x, rfl, r⟩ := rep1 rx
      cases e1 : items d1 with
      | none =>
        rw [e1] at p1
        cases p1.1
      | some as =>
        rw [e1] at p1
        obtain ⟨l1, q1, vs1, rfl, g1, ra⟩ := items_rep r e1
        refine ⟨l1, q1, vs1, rfl, g1 _ s1.sub, p1.2 F1 H1 (Same.refl _) s1 _ ?_⟩
        refine ⟨fun G => Sq l1 X.K G q1 vs1, fun i H v H' => ∃ T x, v = .ref T ∧ H T = none ∧ H' = upd H T (.tup [.int (i : Nat), x]) ∧ vs1[i]? = some x, ?_, fun G f _ => g1 G f, ?_⟩
        · rw [enumD_len, ← RepAll.length ra]
          exact ⟨fun i G hi q => ⟨q, hi⟩, fun G q => ⟨q, rfl⟩, fun i G x G' hi q y => y⟩
        · intro i G v G' hi y T Z H0 B F0 F2 env2 σ2 f2 s2
          obtain ⟨t, vx, rfl, ht, rfl, hx⟩ := y
          obtain ⟨dx, ex, rdx⟩ := RepAll.getV ra hx
          obtain ⟨s3, f3⟩ := s2.laidF ht (o := .tup [.int (i : Nat), vx]) trivial
          have q := enumD_get (k := 0) ex
          rw [Nat.zero_add] at q
          exact ⟨_, _, f3, s3, q, .tup (SqT.of upd_same) (.cons (.int _) (.cons (rdx.mono (f2.trans f3)) .nil))⟩
    · cases p1.1⟩
/-! ### targets -/
/-- own: the slots that it stores -/
def LiftG (K : PySem.W.Frag) (T : Tab) (own : List Nat) (tg : MT) : TG := fun x σ H Q => ∃ Z H0 B F0 F env d env', SR K T Z H0 B F0 F env σ H ∧ Rep K F x d ∧ tg d env = some env' ∧ ∀ σ', SR K T Z H0 B F0 F env' σ' H → (∀ vs, (∀ i ∈ own, i ∈ vs) → wipe σ' vs = wipe σ vs) → Q σ' H
def LiftGs (K : PySem.W.Frag) (T : Tab) (own : List Nat) (tg : MTs) : TGs := fun xs σ H Q => ∃ Z H0 B F0 F env ds env', SR K T Z H0 B F0 F env σ H ∧ RepAll K F xs ds ∧ tg ds env = some env' ∧ ∀ σ', SR K T Z H0 B F0 F env' σ' H → (∀ vs, (∀ i ∈ own, i ∈ vs) → wipe σ' vs = wipe σ vs) → Q σ' H
abbrev DG (X : Cx) (T : Tab) (own : List Nat) (e : Expr) (t : MT) : Prop := PG X e (LiftG X.K T own t)
abbrev DGs (X : Cx) (T : Tab) (own : List Nat) (e : List Expr) (t : MTs) : Prop := PGs X e (LiftGs X.K T own t)
theorem PG.imp {X : Cx} {e : Expr} {t u : TG} (h : PG X e t) (i : ∀ v σ H Q, u v σ H Q → t v σ H Q) : PG X e u := ⟨fun pins s σ H v w Q I r q => h.run pins s σ H v w Q I r (i v σ H Q q)⟩
theorem PGs.imp {X : Cx} {e : List Expr} {t u : TGs} (h : PGs X e t) (i : ∀ v σ H Q, u v σ H Q → t v σ H Q) : PGs X e u := ⟨fun pins s σ H v w Q I r q => h.run pins s σ H v w Q I r (i v σ H Q q)⟩
theorem wipe_get {j : Nat} : ∀ (vs : List Nat) (τ : L2.St), (wipe τ vs)[j]? = if j ∈ vs then (if j < τ.length then some none else none) else (τ : List (Option V))[j]?
  | [], τ => by simp [wipe]
  | k :: r, τ => by
    unfold wipe
    by_cases q : k = j
    · subst q
      rw [if_pos List.mem_cons_self]
      by_cases hl : k < (τ : List (Option V)).length
      · rw [if_pos hl, List.getElem?_set_self (by rw [wipe_length]; exact hl)]
      · rw [if_neg hl, List.getElem?_eq_none (by rw [List.length_set, wipe_length]; exact Nat.le_of_not_lt hl)]
    · rw [List.getElem?_set_ne q, wipe_get r τ]
      have e : (j ∈ k :: r) ↔ j ∈ r := by simp [Ne.symm q]
      simp only [e]
theorem wipe_set {i : Nat} {v : Option V} (vs : List Nat) (σ : L2.St) (h : i ∈ vs) : wipe ((σ : List (Option V)).set i v) vs = wipe σ vs := by
  apply List.ext_getElem?
  intro j
  rw [wipe_get, wipe_get]
  by_cases c : j ∈ vs
  · rw [if_pos c, if_pos c, List.length_set]
  · rw [if_neg c, if_neg c]
    exact List.getElem?_set_ne (fun z : i = j => c (z ▸ h))
theorem wipeE_get {j : Nat} : ∀ (vs : List Nat) (e : Ev), (wipeE vs e)[j]? = if j ∈ vs then (if j < e.length then some none else none) else e[j]?
  | [], e => by simp [wipeE]
  | k :: r, e => by
    have ih := wipeE_get (j := j) r e
    have hl : (wipeE r e).length = e.length := by
      clear ih
      induction r with
      | nil => rfl
      | cons a r ih =>
        show ((wipeE r e).set a none).length = _
        rw [List.length_set, ih]
    show ((wipeE r e).set k none)[j]? = _
    by_cases q : k = j
    · subst q
      rw [if_pos List.mem_cons_self]
      by_cases hl2 : k < e.length
      · rw [if_pos hl2, List.getElem?_set_self (by rw [hl]; exact hl2)]
      · rw [if_neg hl2, List.getElem?_eq_none (by rw [List.length_set, hl]; exact Nat.le_of_not_lt hl2)]
    · rw [List.getElem?_set_ne q, ih]
      have e : (j ∈ k :: r) ↔ j ∈ r := by simp [Ne.symm q]
      simp only [e]
theorem wipeE_length (vs : List Nat) (e : Ev) : (wipeE vs e).length = e.length := by
  induction vs with
  | nil => rfl
  | cons a r ih =>
    show ((wipeE r e).set a none).length = _
    rw [List.length_set, ih]
def restV (e0 : Ev) (i : Nat) : Option SV := match e0[i]? with
  | some v => dOnly v
  | none => none
theorem restE_length (vs : List Nat) (e0 e : Ev) : (restE vs e0 e).length = e.length := by
  induction vs with
  | nil => rfl
  | cons a r ih =>
    show ((restE r e0 e).set a _).length = _
    rw [List.length_set, ih]
theorem restE_get {j : Nat} (e0 : Ev) : ∀ (vs : List Nat) (e : Ev), (restE vs e0 e)[j]? = if j ∈ vs then (if j < e.length then some (restV e0 j) else none) else e[j]?
  | [], e => by simp [restE]
  | k :: r, e => by
    have ih := restE_get (j := j) e0 r e
    show ((restE r e0 e).set k (restV e0 k))[j]? = _
    by_cases q : k = j
    · subst q
      rw [if_pos List.mem_cons_self]
      by_cases hl2 : k < e.length
      · rw [if_pos hl2, List.getElem?_set_self (by rw [restE_length]; exact hl2)]
      · rw [if_neg hl2, List.getElem?_eq_none (by rw [List.length_set, restE_length]; exact Nat.le_of_not_lt hl2)]
    · rw [List.getElem?_set_ne q, ih]
      have e : (j ∈ k :: r) ↔ j ∈ r := by simp [Ne.symm q]
      simp only [e]
theorem isOwn_some {o : Option (Option SV)} (h : isOwn o = true) : ∃ t xs, o = some (some (.own t xs)) := by
  cases o with
  | none => cases h
  | some v =>
    cases v with
    | none => cases h
    | some u =>
      cases u with
      | d x => cases h
      | own t xs => exact ⟨t, xs, rfl⟩
end
section
variable {K : PySem.W.Frag} {T : Tab} {Z H0 : Hp} {B : List Addr} {F0 F F1 : Hp} {env : Ev} {σ : L2.St} {H : Hp}
/-- the slots exchanged -/
theorem SR.slotsTo (s : SR K T Z H0 B F0 F env σ H) {env' : Ev} {σ' : L2.St} (hl : env'.length = σ'.length) (h : ∀ (i : Nat) (v : SV), env'[i]? = some (some v) → ∃ x : V, (σ' : List (Option V))[i]? = some (some x) ∧ SVR K T Z H0 B F H v x ∧ (isOwn env'[i]? = true → env[i]? = some (some v) ∧ (σ : List (Option V))[i]? = some (some x))) :
    SR K T Z H0 B F0 F env' σ' H := by
  refine ⟨s.sub, s.pure, s.sub0, s.new, s.keep, s.tabs, s.bor, s.live, hl, s.prot, s.zf, fun i v e => ?_, fun i j a hi hj ei ej => ?_⟩
  · obtain ⟨x, h1, h2, _⟩ := h i v e
    exact ⟨x, h1, h2⟩
  · obtain ⟨t, xs, e⟩ := isOwn_some hi
    obtain ⟨t2, ys, e2⟩ := isOwn_some hj
    obtain ⟨x, h1, _, h3⟩ := h i _ e
    obtain ⟨y, g1, _, g3⟩ := h j _ e2
    obtain ⟨p1, p2⟩ := h3 hi
    obtain ⟨q1, q2⟩ := g3 hj
    rw [ei] at h1
    rw [ej] at g1
    cases h1
    cases g1
    exact s.apart i j a (by rw [p1]; rfl) (by rw [q1]; rfl) p2 q2
theorem SR.wiped (s : SR K T Z H0 B F0 F env σ H) (vs : List Nat) : SR K T Z H0 B F0 F (wipeE vs env) (wipe σ vs) H := by
  refine s.slotsTo (by rw [wipeE_length, wipe_length]; exact s.len) fun i v e => ?_
  rw [wipeE_get] at e
  by_cases c : i ∈ vs
  · rw [if_pos c] at e
    split at e <;> cases e
  · rw [if_neg c] at e
    obtain ⟨x, h1, h2⟩ := s.slots i v e
    exact ⟨x, by rw [wipe_get, if_neg c]; exact h1, h2, fun _ => ⟨e, h1⟩⟩
/-- at a turn's end -/
theorem SR.rewiped {σ2 : L2.St} (s : SR K T Z H0 B F0 F env σ2 H) {vs : List Nat} (h : wipe σ2 vs = wipe σ vs) : SR K T Z H0 B F0 F (wipeE vs env) (wipe σ vs) H := h ▸ s.wiped vs
/-- behind a comprehension -/
theorem SR.unwiped {env1 E : Ev} {F2 H1 H2 : Hp} {vs : List Nat} (s1 : SR K T Z H0 B F0 F env1 σ H1) (s2 : SR K T Z H0 B F0 F2 (wipeE vs E) (wipe σ vs) H2) (f : Same F F2) : SR K T Z H0 B F0 F2 (restE vs env1 E) σ H2 := by
  refine s2.slotsTo (by rw [restE_length, ← wipeE_length vs E, s2.len, wipe_length]) fun i v e => ?_
  rw [restE_get] at e
  by_cases c : i ∈ vs
  · rw [if_pos c] at e
    split at e
    · rename_i hl
      have e := Option.some.inj e
      unfold restV at e
      cases q : env1[i]? with
      | none => rw [q] at e; cases e
      | some o =>
        rw [q] at e
        cases o with
        | none => cases e
        | some u =>
          cases u with
          | own t xs => cases e
          | d x =>
            cases e
            obtain ⟨y, h1, h2⟩ := s1.slots i _ q
            refine ⟨y, h1, Rep.mono f h2, fun h => ?_⟩
            rw [restE_get, if_pos c, if_pos hl] at h
            unfold restV at h
            rw [q] at h
            cases h
    · cases e
  · rw [if_neg c] at e
    obtain ⟨x, h1, h2⟩ := s2.slots i v (by rw [wipeE_get, if_neg c]; exact e)
    refine ⟨x, by rw [wipe_get, if_neg c] at h1; exact h1, h2, fun _ => ⟨by rw [wipeE_get, if_neg c]; exact e, h1⟩⟩
/-- a list under construction is protected -/
theorem SR.hold (s : SR K T Z H0 B F0 F env σ H) {D : Addr} (h : H D = none) (vs : List V) : SR K T (upd Z D (.lst vs)) H0 B F0 F env σ (upd H D (.lst vs)) := by
  have s1 := s.laid h (.lst vs)
  refine ⟨s1.sub, s1.pure, s1.sub0, s1.new, s1.keep, s1.tabs, s1.bor, s1.live, s1.len, fun b u e => ?_, fun b e => ?_, fun i v e => ?_, s1.apart⟩
  · by_cases q : b = D
    · subst q
      rw [upd_same] at e ⊢
      exact e
    · rw [upd_ne q] at e
      exact s1.prot b u e
  · by_cases q : b = D
    · subst q
      exact ⟨s.freshF h, vs, upd_same⟩
    · rw [upd_ne q] at e ⊢
      exact s.zf b e
  · obtain ⟨x, ex, r⟩ := s1.slots i v e
    refine ⟨x, ex, ?_⟩
    cases v with
    | d d => exact r
    | own t xs =>
      obtain ⟨a, us, ea, h1, h2, h3, h4, h5⟩ := r
      have q : a ≠ D := fun z => by
        subst z
        obtain ⟨x', ex', a', us', ea', h1', _⟩ := s.slots i _ e
        rw [ex] at ex'
        cases ex'
        rw [ea] at ea'
        cases ea'
        rw [h] at h1'
        cases h1'
      exact ⟨a, us, ea, h1, h2, by rw [upd_ne q]; exact h3, h4, h5⟩
theorem SR.held {D : Addr} {vs us : List V} (s : SR K T (upd Z D (.lst vs)) H0 B F0 F env σ H) (h0 : ¬ L0 T H0 D) : SR K T (upd Z D (.lst us)) H0 B F0 F env σ (upd H D (.lst us)) := by
  have hD : H D = some (.lst vs) := s.prot D _ upd_same
  have fD : F D = none := (s.zf D (by rw [upd_same]; simp)).1
  refine ⟨same_upd2 s.sub fD _, s.pure, s.sub0, s.new, fun b u e hb ht => ?_, tabs_keep s.tabs fun b u e hn => ?_, s.bor, fun b e => ?_, s.len, fun b u e => ?_, fun b e => ?_, fun i v e => ?_, s.apart⟩
  · have q : b ≠ D := fun z => by subst z; exact h0 ⟨_, e, ht⟩
    rw [upd_ne q]
    exact s.keep b u e hb ht
  · have q : b ≠ D := fun z => by
      subst z
      rw [hD] at e
      cases e
      exact hn _ rfl
    rw [upd_ne q]
    exact e
  · by_cases q : b = D
    · subst q
      exact L0.lst upd_same
    · obtain ⟨u, hu, c⟩ := s.live b e
      exact ⟨u, by rw [upd_ne q]; exact hu, c⟩
  · by_cases q : b = D
    · subst q
      rw [upd_same] at e ⊢
      exact e
    · rw [upd_ne q] at e ⊢
      exact s.prot b u (by rw [upd_ne q]; exact e)
  · by_cases q : b = D
    · subst q
      exact ⟨fD, us, upd_same⟩
    · rw [upd_ne q] at e
      have z := s.zf b (by rw [upd_ne q]; exact e)
      rw [upd_ne q] at z ⊢
      exact z
  · obtain ⟨x, ex, r⟩ := s.slots i v e
    refine ⟨x, ex, ?_⟩
    cases v with
    | d d => exact r
    | own t xs =>
      obtain ⟨a, ws, ea, h1, h2, h3, h4, h5⟩ := r
      have q : a ≠ D := fun z => by
        subst z
        rw [upd_same] at h3
        cases h3
      exact ⟨a, ws, ea, by rw [upd_ne q]; exact h1, h2, by rw [upd_ne q] at h3 ⊢; exact h3, h4, h5⟩
theorem SR.letgo {D : Addr} {vs : List V} (s : SR K T (upd Z D (.lst vs)) H0 B F0 F env σ H) (hz : Z D = none) : SR K T Z H0 B F0 F env σ H := by
  refine ⟨s.sub, s.pure, s.sub0, s.new, s.keep, s.tabs, s.bor, s.live, s.len, fun b u e => s.prot b u (by rw [upd_ne (ne_of_none e hz)]; exact e), fun b e => ?_, fun i v e => ?_, s.apart⟩
  · have q : b ≠ D := fun q => by
      subst q
      exact e hz
    have z := s.zf b (by rw [upd_ne q]; exact e)
    rw [upd_ne q] at z
    exact z
  · obtain ⟨x, ex, r⟩ := s.slots i v e
    refine ⟨x, ex, ?_⟩
    cases v with
    | d d => exact r
    | own t xs =>
      obtain ⟨a, ws, ea, h1, h2, h3, h4, h5⟩ := r
      have q : a ≠ D := fun z => by
        subst z
        rw [upd_same] at h3
        cases h3
      exact ⟨a, ws, ea, h1, h2, by rw [upd_ne q] at h3; exact h3, h4, h5⟩
end
section
variable {X : Cx} {T : Tab} {W : L2.WX} {a b c e tg : Expr} {pos : Pos} {own : List Nat}
theorem dg_name {i : Nat} {x : Str} (hN : X.N.Nodup) (hi : X.N[i]? = some x) (hx : Loc X.env.scope x) (ho : i ∈ own) (hf : X.fn x = true ∨ X.env.scope.names.lookup x = some .local := by first | exact .inl rfl | exact .inr rfl | assumption) : DG X T own (.Name x pos) (nameT i) :=
  PG.imp (pg_name hN hi hx hf) fun v σ H Q ⟨Z, H0, B, F0, F, env, d, env', s, r, e, k⟩ => by
    cases e
    exact k _ (s.stored (FR.datum r)) fun vs h => wipe_set vs σ (h i ho)
theorem dgs_nil : DGs X T own [] nilT := PGs.imp pgs_nil fun v σ H Q ⟨Z, H0, B, F0, F, env, d, env', s, r, e, k⟩ => by
  cases d with
  | nil =>
    cases e
    cases r
    exact ⟨rfl, k _ s fun _ _ => rfl⟩
  | cons x xs => cases e
theorem dgs_cons {es : List Expr} {t : MT} {u : MTs} (h1 : DG X T own e t) (h2 : DGs X T own es u) (hs : (assignEach (e :: es) X.env).map (·.2) = assign e X.env :: (assignEach es X.env).map (·.2) := by rfl) : DGs X T own (e :: es) (consT t u) :=
  PGs.imp (pgs_cons h1 h2 hs) fun v σ H Q ⟨Z, H0, B, F0, F, env, d, env', s, r, e, k⟩ => by
    cases d with
    | nil => cases e
    | cons x xs =>
      cases r with
      | cons r1 r2 =>
        cases q : t x env with
        | none =>
          rw [show consT t u (x :: xs) env = (t x env).bind fun e1 => u xs e1 from rfl, q] at e
          cases e
        | some e1 =>
          rw [show consT t u (x :: xs) env = (t x env).bind fun e1 => u xs e1 from rfl, q] at e
          exact ⟨_, _, rfl, Z, H0, B, F0, F, env, x, e1, s, r1, q, fun σ1 s1 w1 => ⟨Z, H0, B, F0, F, e1, xs, env', s1, r2, e, fun σ2 s2 w2 => k σ2 s2 fun vs h => (w2 vs h).trans (w1 vs h)⟩⟩
def tupN (n : Nat) (r : MTs) : MT := fun d e => match d with
  | .tup ds => if ds.length = n then r ds e else none
  | _ => none
theorem dg_tup {es : List Expr} {k n : Nat} {u : MTs} (hc : X.calm = true) (h : DGs X T own es u) (hn : (assignEach es X.env).length = n := by rfl) (hst : (assignEach es X.env).findIdx? (·.1) = none := by rfl) : DG X T own (.Tuple es k pos) (tupN n u) :=
  PG.imp (pg_tup hc h hn hst) fun v σ H Q ⟨Z, H0, B, F0, F, env, d, env', s, r, e, k⟩ => by
    cases r with
    | @tup q vs ds h1 h2 =>
      unfold tupN at e
      simp only at e
      split at e
      · rename_i hl
        exact ⟨q, vs, rfl, sameT s.sub h1, by rw [RepAll.length h2]; exact hl, Z, H0, B, F0, F, env, ds, env', s, h2, e, k⟩
      · cases e
    | _ => cases e
end
end DL
set_option maxHeartbeats 1000000
/-! Loops, comprehensions, small statements. -/
namespace DL
open PySem PySem.Spec PyProof.Rows L2
def WF : L2.WX := fun _ _ _ _ => False
theorem ok_of {α : Type} {o : Out α} {x : α} (h : o.val = .ok x) (g : o.good = true) : o = ⟨.ok x, o.env, true⟩ := by
  obtain ⟨v, e, k⟩ := o
  cases h
  cases g
  rfl
section
variable {K : PySem.W.Frag} {mg : Str → Option Value} {T : Tab} {W : L2.WX} {Z H0 : Hp} {B : List Addr} {F0 F : Hp} {σ : L2.St}
theorem post_ok {α : Type} {R : Hp → Hp → Ev → α → Prop} {x : α} {e : Ev} (h : ∀ F' H', Same F F' → SR K T Z H0 B F0 F' e σ H' → R F' H' e x) : Post K mg T W Z H0 B F0 F R ⟨.ok x, e, true⟩ σ := ⟨rfl, h⟩
theorem good_of {α : Type} {R : Hp → Hp → Ev → α → Prop} {o : Out α} (h : Post K mg T W Z H0 B F0 F R o σ) : o.good = true := h.1
end
section
variable {X : Cx} {T : Tab} {W : L2.WX} {a b c e tg iter : Expr} {pos : Pos}
theorem ds_for {body : List Stmt} {own : List Nat} {m : M (List D)} {t : MT} {mb : MS} (hp : PassesOwn (model X.prog X.w) X.A X.env X.xe) (hc : X.calm = true) (hi : DI X T W tg iter m) (hg : DG X T own tg t) (hb : DSs X T W body mb)
    (hs : ∀ x, foldedSetIterable iter X.env x = pure x := by intro _; rfl) : DS X T W (.For tg iter body [] pos) (forS m t mb) :=
  PS.imp (ps_for hp hc hi hg hb hs) fun D σ H ⟨Z, H0, B, F0, F, env, s, p⟩ => by
    refine ⟨Z, H0, B, F0, F, env, s, (PostS.bnd p).imp fun F1 H1 xs f1 s1 p1 J ⟨G, Y, w, hG, hY⟩ => ?_⟩
    refine for_it w (fun i σ' H' => ∃ F2 e2, Same F1 F2 ∧ SR X.K T Z H0 B F0 F2 e2 σ' H' ∧ PostS X.K X.mg T W Z H0 B F0 F2 D (forL t mb (xs.drop i) e2)) ⟨F1, _, Same.refl _, s1, p1⟩ (fun i σ' H' _ ⟨F2, e2, f2, s2, _⟩ => hG _ (f2.trans s2.sub) (s2.prot)) ?_ ?_
    · rintro i x σ' H' H'' hi ⟨F2, e2, f2, s2, p2⟩ y
      obtain ⟨F3, d, f3, s3, ed, rd⟩ := hY i H' x H'' hi y T Z H0 B F0 F2 e2 σ' f2 s2
      have hdrop : xs.drop i = d :: xs.drop (i + 1) := by
        obtain ⟨hl, hv⟩ := List.getElem?_eq_some_iff.mp ed
        rw [List.drop_eq_getElem_cons hl, hv]
      rw [hdrop] at p2
      unfold forL at p2
      cases q : t d e2 with
      | none =>
        rw [q] at p2
        cases p2.1
      | some e3 =>
        rw [q] at p2
        refine ⟨Z, H0, B, F0, F3, e2, d, e3, s3, rd, q, fun σ4 s4 _ => ⟨Z, H0, B, F0, F3, e3, s4, ?_⟩⟩
        have p2 := PostS.fwd p2 f3
        simp only at p2
        generalize hb : mb e3 = o at p2 ⊢
        obtain ⟨fl, e4, g⟩ := o
        cases fl with
        | next =>
          simp only at p2
          obtain ⟨g1, g2⟩ := Bool.and_eq_true_iff.mp p2.1
          refine ⟨g1, fun F' σ5 H5 f' s' => ⟨F', e4, (f2.trans f3).trans f', s', PostS.fwd (o := forL t mb (xs.drop (i + 1)) e4) ⟨g2, p2.2⟩ f'⟩⟩
        | cont =>
          simp only at p2
          obtain ⟨g1, g2⟩ := Bool.and_eq_true_iff.mp p2.1
          refine ⟨g1, fun F' σ5 H5 f' s' => ⟨F', e4, (f2.trans f3).trans f', s', PostS.fwd (o := forL t mb (xs.drop (i + 1)) e4) ⟨g2, p2.2⟩ f'⟩⟩
        | brk => exact p2
        | ret v => exact p2
        | exc v => exact p2
    · rintro σ' H' ⟨F2, e2, f2, s2, p2⟩
      rw [List.drop_length] at p2
      exact p2.2 F2 σ' H' (Same.refl _) s2
theorem ds_while {body : List Stmt} {t : M Bool} {mb : MS} (fuel : Ev → Nat) (hp : PassesOwn (model X.prog X.w) X.A X.env X.xe) (hc : DT X T W c t) (hb : DSs X T W body mb) : DS X T W (.While c body [] pos) (whileS fuel t mb) :=
  PS.imp (ps_while hp hc hb) fun D σ H ⟨Z, H0, B, F0, F, env, s, p⟩ => by
    refine ⟨fun n σ' H' => ∃ F2 e2, Same F F2 ∧ SR X.K T Z H0 B F0 F2 e2 σ' H' ∧ PostS X.K X.mg T W Z H0 B F0 F2 D (whileL t mb n e2), ⟨_, F, env, Same.refl _, s, p⟩, ?_⟩
    rintro n σ1 H1 ⟨F2, e2, f2, s2, p2⟩
    cases n with
    | zero => cases p2.1
    | succ n =>
      refine ⟨Z, H0, B, F0, F2, e2, s2, ?_⟩
      unfold whileL at p2
      generalize ht : t e2 = o at p2 ⊢
      obtain ⟨v, e3, g⟩ := o
      cases v with
      | error x => exact ⟨p2.1, fun F' H' cls dx f s => p2.2 F' σ1 H' cls dx f s⟩
      | ok k =>
        cases k with
        | false =>
          refine ⟨p2.1, fun F' H' f' s' => ?_⟩
          exact iteF (p2.2 F' σ1 H' f' s')
        | true =>
          simp only at p2
          generalize hb : mb e3 = ob at p2
          obtain ⟨fl, e4, g2⟩ := ob
          have gg : g = true := by
            cases fl <;> (have := p2.1; simp only [Bool.and_eq_true] at this; exact this.1)
          refine ⟨gg, fun F' H' f' s' => iteT ?_⟩
          refine ⟨fun σ5 H5 => ∃ F5 e5, Same F F5 ∧ SR X.K T Z H0 B F0 F5 e5 σ5 H5 ∧ PostS X.K X.mg T W Z H0 B F0 F5 D (whileL t mb n e5), fun σ5 H5 q => ⟨n, Nat.lt_succ_self _, q⟩, Z, H0, B, F0, F', e3, s', ?_⟩
          rw [hb]
          have p2 := PostS.fwd p2 f'
          cases fl with
          | next =>
            have g3 := p2.1
            simp only [Bool.and_eq_true] at g3
            exact ⟨g3.2.1, fun F5 σ5 H5 f5 s5 => ⟨F5, e4, (f2.trans f').trans f5, s5, PostS.fwd (o := whileL t mb n e4) ⟨g3.2.2, p2.2⟩ f5⟩⟩
          | cont =>
            have g3 := p2.1
            simp only [Bool.and_eq_true] at g3
            exact ⟨g3.2.1, fun F5 σ5 H5 f5 s5 => ⟨F5, e4, (f2.trans f').trans f5, s5, PostS.fwd (o := whileL t mb n e4) ⟨g3.2.2, p2.2⟩ f5⟩⟩
          | brk =>
            have g3 := p2.1
            simp only [Bool.and_eq_true] at g3
            exact ⟨g3.2, p2.2⟩
          | ret v =>
            have g3 := p2.1
            simp only [Bool.and_eq_true] at g3
            exact ⟨g3.2, p2.2⟩
          | exc v =>
            have g3 := p2.1
            simp only [Bool.and_eq_true] at g3
            exact ⟨g3.2, p2.2⟩

/-! ### comprehensions -/
theorem lc_post {K : PySem.W.Frag} {mg : Str → Option Value} {Z H0 : Hp} {B : List Addr} {F0 F1 : Hp} {σ : L2.St} {H1 : Hp} {env1 : Ev} {own : List Nat} {t : MT} {tt : M Bool} {me : M D} {xs : List D} {J : It} {Q : VK}
    (s1 : SR K T Z H0 B F0 F1 env1 σ H1) (p1 : Post K mg T W Z H0 B F0 F1 (fun F' H' env' v => ∀ x, FR K T Z H0 B F' H' env' σ v x → Q x H') (lcF own t tt me xs env1) σ) (j : IterOk K J xs F1 Z) :
    ∀ D, H1 D = none → ∃ W : Nat → Nat → Hp → Prop, (∃ m, W 0 m (upd H1 D (.lst []))) ∧ ∀ i m H, W i m H →
      (J.stop i H ∧ Q (.ref D) H) ∨ (J.go i H ∧ ∃ Nx : Hp → Prop, (∀ H', Nx H' → ∃ m', m' < m ∧ W (i + 1) m' H') ∧ ∀ x H', J.yld i H x H' → LiftG K T own t x (wipe σ own) H' fun σ2 H2 => wipe σ2 own = wipe σ own ∧ LiftT K mg T WF tt σ2 H2 fun b H3 =>
        if b = true then LiftE K mg T WF me σ2 H3 fun y H4 => ∃ acc, H4 D = some (.lst acc) ∧ acc.length < sizeLine ∧ Nx (upd H4 D (.lst (acc ++ [y]))) else Nx H3) := by
  intro D hD
  obtain ⟨G, Y, w, hG, hY⟩ := j
  unfold lcF at p1
  -- the run ends well
  cases hrun : lcL own t tt me xs [] (wipeE own env1) with
  | mk v E g =>
  rw [hrun] at p1
  cases v with
  | error x => cases p1.1
  | ok A =>
  obtain ⟨hg, p1⟩ := p1
  simp only at hg
  subst hg
  have h00 := s1.fresh0 hD
  have hz0 := s1.freshZ hD
  refine lc_it w (Qd := Q (.ref D)) (fun i H' => ∃ F2 acc accD e2, Same F1 F2 ∧ RepAll K F2 acc accD ∧ SR K T (upd Z D (.lst acc)) H0 B F0 F2 (wipeE own e2) (wipe σ own) H' ∧ lcL own t tt me (xs.drop i) accD e2 = ⟨.ok A, E, true⟩)
    ⟨F1, [], [], wipeE own env1, Same.refl _, .nil, ?_, hrun⟩ (fun i H' _ ⟨F2, acc, accD, e2, f2, _, s2, _⟩ => hG _ (f2.trans s2.sub) ((same_upd (s1.freshZ hD) _).trans s2.prot)) ?_ ?_
  · have q := (s1.wiped own).hold hD []
    have e : wipeE own (wipeE own env1) = wipeE own env1 := by
      apply List.ext_getElem?
      intro j
      rw [wipeE_get, wipeE_get, wipeE_length]
      by_cases c : j ∈ own
      · simp only [c, if_true]
      · simp only [c, if_false]
    rw [e]
    exact q
  · rintro i x H' H'' hi ⟨F2, acc, accD, e2, f2, ra, s2, run⟩ y
    obtain ⟨F3, d, f3, s3, ed, rd⟩ := hY i H' x H'' hi y T _ H0 B F0 F2 _ _ f2 s2
    have hdrop : xs.drop i = d :: xs.drop (i + 1) := by
      obtain ⟨hl, hv⟩ := List.getElem?_eq_some_iff.mp ed
      rw [List.drop_eq_getElem_cons hl, hv]
    rw [hdrop] at run
    unfold lcL at run
    cases q : t d (wipeE own e2) with
    | none =>
      rw [q] at run
      cases run
    | some e3 =>
      rw [q] at run
      simp only at run
      refine ⟨_, H0, B, F0, F3, _, d, e3, s3, rd, q, fun σ4 s4 hw => ?_⟩
      have hww : wipe σ4 own = wipe σ own := by
        rw [hw own (fun i h => h)]
        apply List.ext_getElem?
        intro j
        rw [wipe_get, wipe_get, wipe_length]
        by_cases c : j ∈ own
        · simp only [c, if_true]
        · simp only [c, if_false]
      refine ⟨hww, _, H0, B, F0, F3, e3, s4, ?_⟩
      generalize ht : tt e3 = ot at run ⊢
      obtain ⟨tv, e4, g⟩ := ot
      cases tv with
      | error x => cases run
      | ok k =>
        cases k with
        | false =>
          simp only at run
          generalize hr : lcL own t tt me (xs.drop (i + 1)) accD e4 = orr at run
          obtain ⟨rv, re, rg⟩ := orr
          have run := run
          injection run with r1 r2 r3
          obtain ⟨g1, g2⟩ := Bool.and_eq_true_iff.mp r3
          refine ⟨g1, fun F' H5 f' s' => iteF ?_⟩
          exact ⟨F', acc, accD, e4, (f2.trans f3).trans f', RepAll.mono (f3.trans f') ra, s'.rewiped hww, by rw [hr, show rv = Except.ok A from r1, show re = E from r2, show rg = true from g2]⟩
        | true =>
          simp only at run
          generalize hm : me e4 = om at run
          obtain ⟨mv, e5, g2⟩ := om
          cases mv with
          | error x => cases run
          | ok dd =>
            simp only at run
            generalize hr : lcL own t tt me (xs.drop (i + 1)) (accD ++ [dd]) e5 = orr at run
            obtain ⟨rv, re, rg⟩ := orr
            injection run with r1 r2 r3
            obtain ⟨g1, g3⟩ := Bool.and_eq_true_iff.mp r3
            obtain ⟨g4, g5⟩ := Bool.and_eq_true_iff.mp g3
            obtain ⟨g6, g7⟩ := Bool.and_eq_true_iff.mp g5
            refine ⟨g1, fun F' H5 f' s' => iteT ⟨_, H0, B, F0, F', e4, s', ?_⟩⟩
            rw [hm]
            refine ⟨g4, fun F'' H6 f'' s'' z rz => ?_⟩
            have hlen := RepAll.length ra
            refine ⟨acc, s''.prot D _ upd_same, by rw [hlen, mx_eq]; exact of_decide_eq_true g6, F'', acc ++ [z], accD ++ [dd], e5, ((f2.trans f3).trans f').trans f'', (RepAll.mono ((f3.trans f').trans f'') ra).append (.cons rz .nil), ?_, by rw [hr, show rv = Except.ok A from r1, show re = E from r2, show rg = true from g7]⟩
            exact (s''.rewiped hww).held h00
  · rintro H' ⟨F2, acc, accD, e2, f2, ra, s2, run⟩
    rw [List.drop_length] at run
    injection run with r1 r2 r3
    injection r1 with r1
    subst r1
    subst r2
    have hDH : H' D = some (.lst acc) := s2.prot D _ upd_same
    have fD : F2 D = none := (s2.zf D (by rw [upd_same]; simp)).1
    have s3 := SR.unwiped s1 (s2.letgo hz0) f2
    refine p1 F2 H' f2 s3 _ ⟨⟨D, acc, rfl, hDH, fD, hz0, ra, h00⟩, fun t' ys e => ?_⟩
    cases e
    refine ⟨rfl, fun i a ea ho q => ?_⟩
    cases ea
    obtain ⟨t2, zs, eo⟩ := isOwn_some ho
    rw [restE_get] at eo
    by_cases c : i ∈ own
    · rw [if_pos c] at eo
      split at eo
      · have eo := Option.some.inj eo
        unfold restV at eo
        cases q2 : env1[i]? with
        | none => rw [q2] at eo; cases eo
        | some o =>
          rw [q2] at eo
          cases o with
          | none => cases eo
          | some u => cases u <;> cases eo
      · cases eo
    · rw [if_neg c] at eo
      have e0 : (wipeE own e2)[i]? = some (some (.own t2 zs)) := by rw [wipeE_get, if_neg c]; exact eo
      obtain ⟨x, ex, a2, us, ea2, _, _, hz, _⟩ := s2.slots i _ e0
      rw [wipe_get, if_neg c, q] at ex
      cases ex
      cases ea2
      rw [upd_same] at hz
      cases hz
theorem oe_lc {elt : Expr} {ifs : List Expr} {scope : Scope} {own : List (Str × Nat)} {m : M (List D)} {t : MT} {tt : M Bool} {me : M D} (hc : X.calm = true) (hN : X.N.Nodup) (hi : DI X T W tg iter m) (ok : BlkOk X.N X.env.scope scope own)
    (hg : ∀ (s : Shared) (H : Hp) (C : Addr) (cl : List (Str × Addr)) (fp : List Addr), DG (X.blk s H scope (compEnvC scope cl C X.env) fp) T (own.map (·.2)) tg t) (ht : ∀ (s : Shared) (H : Hp) (C : Addr) (cl : List (Str × Addr)) (fp : List Addr), PTs (X.blk s H scope (compEnvC scope cl C X.env) fp) ifs (LiftT X.K X.mg T WF tt))
    (he : ∀ (s : Shared) (H : Hp) (C : Addr) (cl : List (Str × Addr)) (fp : List Addr), DE (X.blk s H scope (compEnvC scope cl C X.env) fp) T WF elt me) (hs : ∀ x, foldedSetIterable iter X.env x = pure x := by intro _; rfl) :
    OE X T W (.ListComp elt [⟨tg, iter, ifs, 0⟩] scope pos) (lcO (own.map (·.2)) m t tt me) :=
  PE.imp (pe_lc hc hN hi ok hg ht he hs) fun σ H Q ⟨Z, H0, B, F0, F, env, s, p⟩ => ⟨Z, H0, B, F0, F, env, s, p.bnd.imp fun F1 H1 xs f1 s1 p1 J j => lc_post s1 p1 j⟩
/-! ### small statements -/
def asgS (i : Nat) (m : M SV) : MS := bndS m fun v env => ⟨.next, env.set i (some v), true⟩
theorem post_set {D : Ends} {K : PySem.W.Frag} {mg : Str → Option Value} {Z H0 : Hp} {B : List Addr} {F0 F : Hp} {σ : L2.St} {env : Ev} {i : Nat} {m : M SV} (p : PostS K mg T W Z H0 B F0 F D (asgS i m env)) :
    Post K mg T W Z H0 B F0 F (fun F' H' env' v => ∀ x, FR K T Z H0 B F' H' env' σ v x → SR K T Z H0 B F0 F' env' σ H' → D.nx (σ.set i (some x)) H') (m env) σ :=
  (PostS.bnd p).imp fun F1 H1 v f1 s1 p1 x fr s2 => p1.2 F1 _ H1 (Same.refl _) (s2.stored fr)
theorem ds_set {i : Nat} {x : Str} {m : M SV} {pos' : Pos} (hN : X.N.Nodup) (hi : X.N[i]? = some x) (hx : Loc X.env.scope x) (he : OE X T W e m) (hs : swapsWith e (some (.Name x pos')) pos.line X.env = pure false := by rfl) (hf : X.fn x = true ∨ X.env.scope.names.lookup x = some .local := by first | exact .inl rfl | exact .inr rfl | assumption) :
    DS X T W (.Assign [.Name x pos'] e pos) (asgS i m) := PS.imp (ps_set hN hi hx he hs hf) fun D σ H ⟨Z, H0, B, F0, F, env, s, p⟩ =>
  ⟨Z, H0, B, F0, F, env, s, (PostS.bnd p).imp fun F1 H1 v f1 s1 p1 x fr => p1.2 F1 _ H1 (Same.refl _) (s1.stored fr)⟩
theorem ds_setLc {i : Nat} {y : Str} {py : Pos} {elt : Expr} {ifs : List Expr} {scope : Scope} {own : List (Str × Nat)} {spos : Pos} {m : M (List D)} {t : MT} {tt : M Bool} {me : M D} (hc : X.calm = true) (hN : X.N.Nodup) (hy : X.N[i]? = some y) (hyl : X.env.scope.names.lookup y = some .local)
    (hsw : swapsWith (.ListComp elt [⟨tg, iter, ifs, 0⟩] scope pos) (some (.Name y py)) spos.line X.env = pure true) (hi : DI X T W tg iter m) (ok : BlkOk X.N X.env.scope scope own)
    (hg : ∀ (s : Shared) (H : Hp) (C : Addr) (cl : List (Str × Addr)) (fp : List Addr), DG (X.blk s H scope (compEnvC scope cl C X.env) fp) T (own.map (·.2)) tg t) (ht : ∀ (s : Shared) (H : Hp) (C : Addr) (cl : List (Str × Addr)) (fp : List Addr), PTs (X.blk s H scope (compEnvC scope cl C X.env) fp) ifs (LiftT X.K X.mg T WF tt))
    (he : ∀ (s : Shared) (H : Hp) (C : Addr) (cl : List (Str × Addr)) (fp : List Addr), DE (X.blk s H scope (compEnvC scope cl C X.env) fp) T WF elt me) (hs : ∀ x, foldedSetIterable iter X.env x = pure x := by intro _; rfl) :
    DS X T W (.Assign [.Name y py] (.ListComp elt [⟨tg, iter, ifs, 0⟩] scope pos) spos) (asgS i (lcO (own.map (·.2)) m t tt me)) :=
  PS.imp (ps_setLc hc hN hy hyl hsw hi ok hg ht he hs) fun D σ H ⟨Z, H0, B, F0, F, env, s, p⟩ => by
    refine ⟨Z, H0, B, F0, F, env, s, ?_⟩
    have q := PostS.bnd (σ := σ) p
    refine (Post.bnd (m := m) (k := lcF (own.map (·.2)) t tt me) q).imp fun F1 H1 xs f1 s1 p1 J j => lc_post s1 (p1.imp fun F2 H2 v f2 s2 p2 x fr => p2.2 F2 _ H2 (Same.refl _) (s2.stored fr)) j
def asgT (t : MT) (m : M D) : MS := bndS m fun d env => match t d env with
  | some e => ⟨.next, e, true⟩
  | none => ⟨.next, env, false⟩
theorem ds_asg {own : List Nat} {m : M D} {t : MT} (he : DE X T W e m) (hg : DG X T own tg t) (hs : swapsWithSole [tg] e pos.line X.env = pure false := by rfl) (hw : swappedStores [tg] e X.env = pure none := by rfl)
    (h1 : (assignEach [tg] X.env).map (·.2) = [assign tg X.env] := by rfl) : DS X T W (.Assign [tg] e pos) (asgT t m) :=
  PS.imp (ps_asg he hg hs hw h1) fun D σ H ⟨Z, H0, B, F0, F, env, s, p⟩ => ⟨Z, H0, B, F0, F, env, s, (PostS.bnd p).imp fun F1 H1 d f1 s1 p1 x rx => by
    cases q : t d (m env).env with
    | none =>
      rw [q] at p1
      cases p1.1
    | some e3 =>
      rw [q] at p1
      exact ⟨Z, H0, B, F0, F1, _, d, e3, s1, rx, q, fun σ' s' _ => p1.2 F1 σ' H1 (Same.refl _) s'⟩⟩
def parS (i j : Nat) (m : M (List D)) : MS := bndS m fun ds env => match ds with
  | [d, d2] => ⟨.next, (env.set i (some (.d d))).set j (some (.d d2)), true⟩
  | _ => ⟨.next, env, false⟩
theorem ds_par {i j : Nat} {x y : Str} {m : M (List D)} {px py pt : Pos} {kt k2 pt2} (hc : X.calm = true) (hN : X.N.Nodup) (hi : X.N[i]? = some x) (hj : X.N[j]? = some y) (hij : i ≠ j)
    (hx : X.env.scope.names.lookup x = some .local) (hy : X.env.scope.names.lookup y = some .local) (ha : DA X T W [a, b] m)
    (hw : swappedStores [.Tuple [.Name x px, .Name y py] kt pt] (.Tuple [a, b] k2 pt2) X.env = pure (some [x, y]))
    (hs : swapsWithSole [.Tuple [.Name x px, .Name y py] kt pt] (.Tuple [a, b] k2 pt2) pos.line X.env = pure false := by rfl) :
    DS X T W (.Assign [.Tuple [.Name x px, .Name y py] kt pt] (.Tuple [a, b] k2 pt2) pos) (parS i j m) :=
  PS.imp (ps_par hc hN hi hj hij hx hy ha hw hs) fun D σ H ⟨Z, H0, B, F0, F, env, s, p⟩ => ⟨Z, H0, B, F0, F, env, s, (PostS.bnd p).imp fun F1 H1 ds f1 s1 p1 xs rx => by
    match ds, p1, rx with
    | [d, d2], p1, rx =>
      obtain ⟨x, y, rfl, r, r2⟩ := rep2 rx
      exact ⟨x, y, rfl, p1.2 F1 _ H1 (Same.refl _) ((s1.stored (FR.datum r)).stored (FR.datum r2))⟩
    | [], p1, rx => cases p1.1
    | [_], p1, rx => cases p1.1
    | _ :: _ :: _ :: _, p1, rx => cases p1.1⟩
def retS (m : M SV) : MS := bndS m fun v env => ⟨.ret v, env, true⟩
theorem ds_ret {m : M SV} (he : OE X T W e m) : DS X T W (.Return (some e) pos) (retS m) :=
  PS.imp (ps_ret he) fun D σ H ⟨Z, H0, B, F0, F, env, s, p⟩ => ⟨Z, H0, B, F0, F, env, s, (PostS.bnd p).imp fun F1 H1 v f1 s1 p1 x fr => p1.2 F1 σ H1 x (Same.refl _) s1 fr⟩
def retNS : MS := fun env => ⟨.ret (.d .non), env, true⟩
theorem ds_retN : DS X T W (.Return none pos) retNS := PS.imp ps_retN fun D σ H ⟨Z, H0, B, F0, F, env, s, p⟩ => p.2 F σ H .non (Same.refl _) s (FR.datum .non)
def dropS (m : M SV) : MS := bndS m fun _ env => ⟨.next, env, true⟩
theorem ds_expr {m : M SV} (he : OE X T W e m) (hs : swapsWith e none pos.line X.env = pure false := by rfl) : DS X T W (.Expr e pos) (dropS m) :=
  PS.imp (ps_expr he hs) fun D σ H ⟨Z, H0, B, F0, F, env, s, p⟩ => ⟨Z, H0, B, F0, F, env, s, (PostS.bnd p).imp fun F1 H1 v f1 s1 p1 x fr => p1.2 F1 σ H1 (Same.refl _) s1⟩
theorem ds_doc {x j pos'} : DS X T W (.Expr (.Constant (.str x) j pos) pos') nextS := PS.imp ps_doc fun D σ H ⟨Z, H0, B, F0, F, env, s, p⟩ => p.2 F σ H (Same.refl _) s
theorem ds_pass : DS X T W (.Pass pos) nextS := PS.imp ps_pass fun D σ H ⟨Z, H0, B, F0, F, env, s, p⟩ => p.2 F σ H (Same.refl _) s
def brkS : MS := fun env => ⟨.brk, env, true⟩
def contS : MS := fun env => ⟨.cont, env, true⟩
theorem ds_break : DS X T W (.Break pos) brkS := PS.imp ps_break fun D σ H ⟨Z, H0, B, F0, F, env, s, p⟩ => p.2 F σ H (Same.refl _) s
theorem ds_cont : DS X T W (.Continue pos) contS := PS.imp ps_continue fun D σ H ⟨Z, H0, B, F0, F, env, s, p⟩ => p.2 F σ H (Same.refl _) s
def ifS (t : M Bool) (x y : MS) : MS := bndS t fun b => if b then x else y
theorem ds_if {p q : List Stmt} {t : M Bool} {x y : MS} (hc : DT X T W c t) (ha : DSs X T W p x) (hb : DSs X T W q y) : DS X T W (.If c p q pos) (ifS t x y) :=
  PS.imp (ps_if hc ha hb) fun D σ H ⟨Z, H0, B, F0, F, env, s, p⟩ => ⟨Z, H0, B, F0, F, env, s, (PostS.bnd p).imp fun F1 H1 k f1 s1 p1 => by
    cases k with
    | true => exact iteT ⟨Z, H0, B, F0, F1, _, s1, p1⟩
    | false => exact iteF ⟨Z, H0, B, F0, F1, _, s1, p1⟩⟩
theorem dss_nil : DSs X T W [] nextS := PSs.imp pss_nil fun D σ H ⟨Z, H0, B, F0, F, env, s, p⟩ => p.2 F σ H (Same.refl _) s
theorem dss_one {st : Stmt} {m : MS} (h : DS X T W st m) : DSs X T W [st] m := pss_one h
theorem dss_cons {st : Stmt} {r : List Stmt} {x y : MS} (h1 : DS X T W st x) (h2 : DSs X T W r y) : DSs X T W (st :: r) (seqS x y) :=
  PSs.imp (pss_cons h1 h2) fun D σ H ⟨Z, H0, B, F0, F, env, s, p⟩ => ⟨Z, H0, B, F0, F, env, s, by
    obtain ⟨g, q⟩ := PostS.seq p
    refine ⟨g, ?_⟩
    generalize x env = o at q ⊢
    obtain ⟨fl, e1, g1⟩ := o
    cases fl with
    | next =>
      intro F' σ' H' f' s'
      obtain ⟨F2, e2, s2, p2⟩ := q F' σ' H' f' s'
      exact ⟨Z, H0, B, F0, F2, e2, s2, p2⟩
    | brk => exact q
    | cont => exact q
    | ret v => exact q
    | exc v => exact q⟩
end
end DL
set_option maxHeartbeats 1000000
/-! Functions: what they promise, calls, bodies. -/
namespace DL
open PySem PySem.Spec PyProof.Rows L2
/-- what a def gives: its value, the lent list at the end -/
structure Res where
  val : Except Exc SV
  out : List D
  good : Bool
instance : Inhabited Res := ⟨⟨.ok (.d .non), [], false⟩⟩
abbrev Fn := List SV → Res
def badR : Res := ⟨.ok (.d .non), [], false⟩
/-- the arguments: at most one list is lent -/
inductive ArgsR (K : PySem.W.Frag) (F H : Hp) : List Addr → List V → List SV → Prop
  | nil : ArgsR K F H [] [] []
  | d {B : List Addr} {x : V} {d : D} {xs : List V} {as : List SV} : Rep K F x d → ArgsR K F H B xs as → ArgsR K F H B (x :: xs) (.d d :: as)
  | own {a : Addr} {vs : List V} {ys : List D} {xs : List V} {as : List SV} : H a = some (.lst vs) → F a = none → RepAll K F vs ys → ArgsR K F H [] xs as → ArgsR K F H [a] (.ref a :: xs) (.own 1 ys :: as)
structure EndR (K : PySem.W.Frag) (T : Tab) (F H : Hp) (B : List Addr) (out : List D) (F' H' : Hp) : Prop where
  ext : Same F F'
  sub : Same F' H'
  pure : ∀ b o, F' b = some o → Fz o
  new : ∀ b, F b = none → L0 T H b → F' b = none
  keep : ∀ b o, H b = some o → b ∉ B → (T = [] ∨ ∀ ps, o ≠ .tbl ps) → H' b = some o
  tabs : LamX.Tabs T H'
  live : ∀ b, L0 T H b → L0 T H' b
  lent : ∀ b ∈ B, F' b = none ∧ ∃ ws, H' b = some (.lst ws) ∧ RepAll K F' ws out
def Z0 : Hp := fun _ => none
def spF (K : PySem.W.Frag) (mg : Str → Option Value) (T : Tab) (n : Nat) (f : Fn) : Sp := fun vs H Q E =>
  ∃ (B : List Addr) (F : Hp) (args : List SV), Same F H ∧ (∀ b o, F b = some o → Fz o) ∧ LamX.Tabs T H ∧ ArgsR K F H B vs args ∧ args.length = n ∧ (f args).good = true ∧
    ∀ F' H', EndR K T F H B (f args).out F' H' → match (f args).val with
      | .ok v => ∀ x, SVR K T Z0 H B F' H' v x → (∀ t xs, v = .own t xs → t = 0) → Q x H'
      | .error e => ∀ cls dx, ExcR K mg F' H' e cls dx → E cls dx H'
abbrev FnD (P : Program) (w : World) (K : PySem.W.Frag) (mg : Str → Option Value) (base : Heap) (T : Tab) (k : Nat) (f : Addr) (fd : FuncData) (ps : List Str) (fn : Fn) : Prop :=
  FnOk P w K mg base (L2N.CX P w) k f fd ps (spF K mg T ps.length fn)
section
variable {K : PySem.W.Frag} {mg : Str → Option Value} {T : Tab} {F H : Hp} {B : List Addr} {vs : List V} {args : List SV}
theorem ArgsR.length : ∀ {args : List SV} {B : List Addr} {vs : List V}, ArgsR K F H B vs args → vs.length = args.length
  | [], _, _, h => by cases h; rfl
  | a :: as, _, _, h => by
    cases h with
    | d h1 h2 => rw [List.length_cons, List.length_cons, ArgsR.length h2]
    | own h1 h2 h3 h4 => rw [List.length_cons, List.length_cons, ArgsR.length h4]
theorem spF.len {n : Nat} {f : Fn} {vs : List V} {H : Hp} {Q : VK} {E : XK} (h : spF K mg T n f vs H Q E) : vs.length = n := by
  obtain ⟨B, F, args, _, _, _, h1, h2, _⟩ := h
  rw [ArgsR.length h1, h2]
/-- a def may be told by another function, where it is good -/
theorem FnD.as {P : Program} {w : World} {base : Heap} {k : Nat} {f : Addr} {fd : FuncData} {ps : List Str} {fn fn' : Fn} (h : FnD P w K mg base T k f fd ps fn) (e : ∀ args, args.length = ps.length → (fn' args).good = true → fn args = fn' args) : FnD P w K mg base T k f fd ps fn' :=
  FnOk.imp h fun vs H Q E ⟨B, F, args, h1, h2, h3, h4, h5, h6, h7⟩ => ⟨B, F, args, h1, h2, h3, h4, h5, by rw [e args h5 h6]; exact h6, by rw [e args h5 h6]; exact h7⟩
/-- the level below which nothing is promised -/
theorem FnD.never {P : Program} {w : World} {base : Heap} {k : Nat} {f : Addr} {fd : FuncData} {ps : List Str} : FnD P w K mg base T k f fd ps fun _ => badR :=
  ⟨fun vs H Q E h => spF.len h, fun A outer s H args us vs Q E hr he hb hv hs => by
    obtain ⟨B, F, args, h1, h2, h3, h4, h5, h6, h7⟩ := hs
    cases h6⟩

/-! ### at the callee's start and end -/
theorem ArgsR.slots : ∀ {args : List SV} {B : List Addr} {vs : List V}, ArgsR K F H B vs args → ∀ (i : Nat) (v : SV), args[i]? = some v → ∃ x : V, vs[i]? = some x ∧ SVR K T Z0 H B F H v x
  | [], _, _, h, i, v, e => by simp at e
  | a :: as, _, _, h, i, v, e => by
    cases h with
    | @d B x d xs as h1 h2 =>
      cases i with
      | zero =>
        simp at e
        subst e
        exact ⟨x, rfl, h1⟩
      | succ i =>
        obtain ⟨y, q1, q2⟩ := ArgsR.slots h2 i v (by simpa using e)
        exact ⟨y, by simpa using q1, q2⟩
    | @own a vs ys xs as h1 h2 h3 h4 =>
      cases i with
      | zero =>
        simp at e
        subst e
        exact ⟨.ref a, rfl, a, vs, rfl, h1, h2, rfl, h3, rfl⟩
      | succ i =>
        obtain ⟨y, q1, q2⟩ := ArgsR.slots h4 i v (by simpa using e)
        refine ⟨y, by simpa using q1, ?_⟩
        cases v with
        | d d => exact q2
        | own t zs =>
          obtain ⟨b, us, e1, e2, e3, e4, e5, e6⟩ := q2
          cases t with
          | zero =>
            exact absurd (L0.lst e2) (show ¬ L0 T H b from e6)
          | succ k =>
            have e6 : ([] : List Addr)[k]? = some b := e6
            simp at e6
theorem ArgsR.noOwn : ∀ {args : List SV} {vs : List V}, ArgsR K F H [] vs args → ∀ (i : Nat) (t : Nat) (ys : List D), args[i]? ≠ some (.own t ys)
  | [], _, h, i, t, ys, e => by simp at e
  | a :: as, _, h, i, t, ys, e => by
    cases h with
    | d h1 h2 =>
      cases i with
      | zero =>
        simp at e
      | succ i => exact ArgsR.noOwn h2 i t ys (by simpa using e)
theorem ArgsR.oneOwn : ∀ {args : List SV} {B : List Addr} {vs : List V}, ArgsR K F H B vs args → ∀ (i j t u : Nat) (ys zs : List D), args[i]? = some (.own t ys) → args[j]? = some (.own u zs) → i = j
  | [], _, _, h, i, j, t, u, ys, zs, e, e2 => by simp at e
  | a :: as, _, _, h, i, j, t, u, ys, zs, e, e2 => by
    cases h with
    | d h1 h2 =>
      cases i with
      | zero => simp at e
      | succ i =>
        cases j with
        | zero => simp at e2
        | succ j => rw [ArgsR.oneOwn h2 i j t u ys zs (by simpa using e) (by simpa using e2)]
    | own h1 h2 h3 h4 =>
      cases i with
      | zero =>
        cases j with
        | zero => rfl
        | succ j => exact absurd (show as[j]? = _ by simpa using e2) (ArgsR.noOwn h4 j u zs)
      | succ i => exact absurd (show as[i]? = _ by simpa using e) (ArgsR.noOwn h4 i t ys)
theorem ArgsR.bor : ∀ {args : List SV} {B : List Addr} {vs : List V}, ArgsR K F H B vs args → ∀ b ∈ B, F b = none ∧ L0 T H b
  | [], _, _, h, b, hb => by cases h; cases hb
  | a :: as, _, _, h, b, hb => by
    cases h with
    | d h1 h2 => exact ArgsR.bor h2 b hb
    | own h1 h2 h3 h4 =>
      cases List.mem_singleton.mp hb
      exact ⟨h2, L0.lst h1⟩
def startE (n : Nat) (args : List SV) : Ev := args.map some ++ List.replicate (n - args.length) none
theorem startE_get {n : Nat} {args : List SV} {i : Nat} {v : SV} (h : (startE n args)[i]? = some (some v)) : args[i]? = some v := by
  unfold startE at h
  by_cases hi : i < args.length
  · rw [List.getElem?_append_left (by simpa using hi), List.getElem?_map] at h
    cases e : args[i]? with
    | none => rw [e] at h; cases h
    | some a => rw [e] at h; cases h; rfl
  · rw [List.getElem?_append_right (by simpa using hi), List.getElem?_replicate] at h
    split at h <;> cases h
theorem SR.start {N : List Str} (h1 : Same F H) (h2 : ∀ b o, F b = some o → Fz o) (h3 : LamX.Tabs T H) (h : ArgsR K F H B vs args) (hl : args.length ≤ N.length) : SR K T Z0 H B F F (startE N.length args) (L2.start N vs) H := by
  refine ⟨h1, h2, Same.refl F, fun b e _ => e, fun b o e _ _ => e, h3, h.bor, fun b e => e, ?_, fun b o e => (by cases e), fun b e => absurd rfl e, fun i v e => ?_, fun i j a hi hj _ _ => ?_⟩
  · unfold startE L2.start
    rw [List.length_append, List.length_append, List.length_map, List.length_map, List.length_replicate, List.length_replicate, h.length]
  · obtain ⟨x, q1, q2⟩ := h.slots i v (startE_get e)
    refine ⟨x, ?_, q2⟩
    unfold L2.start
    have hi : i < vs.length := (List.getElem?_eq_some_iff.mp q1).1
    rw [List.getElem?_append_left (by simpa using hi), List.getElem?_map, q1]
    rfl
  · obtain ⟨t, ys, e⟩ := isOwn_some hi
    obtain ⟨u, zs, e2⟩ := isOwn_some hj
    exact h.oneOwn i j t u ys zs (startE_get e) (startE_get e2)
/-- the lent list at the end -/
def outS : List SV → Ev → Option (List D)
  | [], _ => some []
  | .d _ :: r, _ :: e => outS r e
  | .own _ _ :: _, some (.own 1 ys) :: _ => some ys
  | _, _ => none
theorem outS_lent : ∀ {args : List SV} {B : List Addr} {vs : List V} {env : Ev} {out : List D}, ArgsR K F H B vs args → outS args env = some out → ∀ b ∈ B, ∃ i : Nat, env[i]? = some (some (SV.own 1 out)) ∧ B = [b]
  | [], _, _, _, _, h, e, b, hb => by cases h; cases hb
  | a :: as, _, _, env, out, h, e, b, hb => by
    cases h with
    | @d B x d xs as h1 h2 =>
      cases env with
      | nil => cases e
      | cons v env =>
        obtain ⟨i, q1, q2⟩ := outS_lent h2 (show outS as env = some out from e) b hb
        exact ⟨i + 1, by simpa using q1, q2⟩
    | @own a vs ys xs as h1 h2 h3 h4 =>
      cases List.mem_singleton.mp hb
      cases env with
      | nil => cases e
      | cons v env =>
        cases v with
        | none => cases e
        | some v =>
          cases v with
          | d x => cases e
          | own t zs =>
            match t, e with
            | 1, e =>
              cases e
              exact ⟨0, rfl, rfl⟩
def finR (args : List SV) (v : Except Exc SV) (env : Ev) (g : Bool) : Res := match outS args env with
  | some out => ⟨v, out, g⟩
  | none => badR
/-- a def by its body: n slots -/
def runDef (n : Nat) (m : MS) : Fn := fun args => match m (startE n args) with
  | ⟨.next, env, g⟩ => finR args (.ok (.d .non)) env g
  | ⟨.ret (.own (_ + 1) _), _, _⟩ => badR
  | ⟨.ret v, env, g⟩ => finR args (.ok v) env g
  | ⟨.exc e, env, g⟩ => finR args (.error e) env g
  | ⟨_, _, _⟩ => badR
theorem endR {F' H' : Hp} {env' : Ev} {σ' : L2.St} {out : List D} (h : ArgsR K F H B vs args) (f : Same F F') (s : SR K T Z0 H B F F' env' σ' H') (o : outS args env' = some out) : EndR K T F H B out F' H' := by
  refine ⟨f, s.sub, s.pure, s.new, s.keep, s.tabs, s.live, fun b hb => ⟨(s.bor b hb).1, ?_⟩⟩
  obtain ⟨i, e, eB⟩ := outS_lent h o b hb
  obtain ⟨x, ex, a, ws, ea, h1, h2, h3, h4, h5⟩ := s.slots i _ e
  have h5 : B[0]? = some a := h5
  rw [eB] at h5
  cases h5
  exact ⟨ws, h1, h4⟩
theorem body_post {W : L2.WX} {N : List Str} {m : MS} {Q : VK} {E : XK} {n : Nat} (hW : ∀ cls dx σ H, E cls dx H → W cls dx σ H) (hn : n ≤ N.length) (h : spF K mg T n (runDef N.length m) vs H Q E) :
    LiftS K mg T W m { nx := fun _ H' => Q .non H', rt := Q } (L2.start N vs) H := by
  obtain ⟨B, F, args, h1, h2, h3, h4, h5, h6, h7⟩ := h
  have s0 := SR.start (K := K) (N := N) h1 h2 h3 h4 (by omega)
  refine ⟨Z0, H, B, F, F, startE N.length args, s0, ?_⟩
  unfold runDef at h6 h7
  generalize m (startE N.length args) = o at h6 h7 ⊢
  obtain ⟨fl, env, g⟩ := o
  cases fl with
  | next =>
    simp only [finR] at h6 h7
    cases q : outS args env with
    | none => rw [q] at h6; cases h6
    | some out =>
      rw [q] at h6 h7
      refine ⟨h6, fun F' σ' H' f s => ?_⟩
      exact h7 F' H' (endR h4 f s q) .non .non fun t xs e => by cases e
  | brk => cases h6
  | cont => cases h6
  | ret v =>
    cases v with
    | d d =>
      simp only [finR] at h6 h7
      cases q : outS args env with
      | none => rw [q] at h6; cases h6
      | some out =>
        rw [q] at h6 h7
        refine ⟨h6, fun F' σ' H' x f s fr => ?_⟩
        exact h7 F' H' (endR h4 f s q) x fr.1 fun t xs e => by cases e
    | own t xs =>
      cases t with
      | succ k => cases h6
      | zero =>
        simp only [finR] at h6 h7
        cases q : outS args env with
        | none => rw [q] at h6; cases h6
        | some out =>
          rw [q] at h6 h7
          refine ⟨h6, fun F' σ' H' x f s fr => ?_⟩
          exact h7 F' H' (endR h4 f s q) x fr.1 fun t xs e => by cases e; rfl
  | exc e =>
    simp only [finR] at h6 h7
    cases q : outS args env with
    | none => rw [q] at h6; cases h6
    | some out =>
      rw [q] at h6 h7
      refine ⟨h6, fun F' σ' H' cls dx f s er => ?_⟩
      exact hW _ _ _ _ (h7 F' H' (endR h4 f s q) cls dx er)
end

/-! ### calls -/
inductive AV where
  | v (d : D) | s (i : Nat)
inductive AVs (K : PySem.W.Frag) (F : Hp) (σ : L2.St) : List V → List AV → Prop
  | nil : AVs K F σ [] []
  | v {x : V} {d : D} {xs : List V} {as : List AV} : Rep K F x d → AVs K F σ xs as → AVs K F σ (x :: xs) (.v d :: as)
  | s {x : V} {i : Nat} {xs : List V} {as : List AV} : (σ : List (Option V))[i]? = some (some x) → AVs K F σ xs as → AVs K F σ (x :: xs) (.s i :: as)
theorem AVs.mono {K : PySem.W.Frag} {F G : Hp} {σ : L2.St} (e : Same F G) : ∀ {as : List AV} {xs : List V}, AVs K F σ xs as → AVs K G σ xs as
  | [], _, h => by cases h; exact .nil
  | a :: as, _, h => by
    cases h with
    | v h1 h2 => exact .v (h1.mono e) (h2.mono e)
    | s h1 h2 => exact .s h1 (h2.mono e)
def LiftV (K : PySem.W.Frag) (mg : Str → Option Value) (T : Tab) (W : L2.WX) (m : M (List AV)) : TA := fun σ H Q => ∃ Z H0 B F0 F env, SR K T Z H0 B F0 F env σ H ∧ Post K mg T W Z H0 B F0 F (fun F' H' _ as => ∀ xs, AVs K F' σ xs as → Q xs H') (m env) σ
abbrev DV (X : Cx) (T : Tab) (W : L2.WX) (es : List Expr) (m : M (List AV)) : Prop := PA X es (LiftV X.K X.mg T W m)
def nilV : M (List AV) := ret []
def consV (m : M D) (r : M (List AV)) : M (List AV) := bnd m fun d => bnd r fun as => ret (.v d :: as)
def consL (i : Nat) (r : M (List AV)) : M (List AV) := fun env => match env[i]? with
  | some (some _) => bnd r (fun as => ret (.s i :: as)) env
  | _ => ⟨.error default, env, false⟩
/-- the arguments as they are at the call -/
def mkArgs (env : Ev) : List AV → Option (List SV)
  | [] => some []
  | .v d :: r => (mkArgs env r).map fun as => .d d :: as
  | .s i :: r => (match env[i]? with
    | some (some (.d d)) => (mkArgs env r).map fun as => .d d :: as
    | some (some (.own _ xs)) => (mkArgs env r).map fun as => .own 1 xs :: as
    | _ => none)
/-- the slots whose lists are lent -/
def lentS (env : Ev) : List AV → List Nat
  | [] => []
  | .v _ :: r => lentS env r
  | .s i :: r => (match env[i]? with
    | some (some (.own _ _)) => i :: lentS env r
    | _ => lentS env r)
def putBack (out : List D) (env : Ev) : List Nat → Ev
  | i :: _ => (match env[i]? with
    | some (some (.own t _)) => env.set i (some (.own t out))
    | _ => env)
  | [] => env
def callM (f : Fn) (m : M (List AV)) : M SV := bnd m fun as env => match mkArgs env as with
  | none => ⟨.error default, env, false⟩
  | some args => (match lentS env as with
    | [] => ⟨(f args).val, env, (f args).good⟩
    | [i] => ⟨(f args).val, putBack (f args).out env [i], (f args).good⟩
    | _ => ⟨.error default, env, false⟩)
section
variable {K : PySem.W.Frag} {mg : Str → Option Value} {T : Tab} {W : L2.WX} {Z H0 : Hp} {B : List Addr} {F0 F F1 : Hp} {env : Ev} {σ : L2.St} {H : Hp}
theorem args0 (s : SR K T Z H0 B F0 F env σ H) : ∀ {as : List AV} {xs : List V} {args : List SV}, AVs K F σ xs as → mkArgs env as = some args → lentS env as = [] → ArgsR K F H [] xs args
  | [], _, _, h, e, l => by
    cases h
    cases e
    exact .nil
  | a :: as, _, args, h, e, l => by
    cases h with
    | @v x d xs as h1 h2 =>
      simp only [mkArgs] at e
      cases q : mkArgs env as with
      | none => rw [q] at e; cases e
      | some r =>
        rw [q] at e
        cases e
        exact .d h1 (args0 s h2 q l)
    | @s x i xs as h1 h2 =>
      simp only [mkArgs] at e
      simp only [lentS] at l
      cases q1 : env[i]? with
      | none => rw [q1] at e; cases e
      | some o =>
        rw [q1] at e l
        cases o with
        | none => cases e
        | some u =>
          cases u with
          | own t ys => cases l
          | d d =>
            simp only at e l
            cases q : mkArgs env as with
            | none => rw [q] at e; cases e
            | some r =>
              rw [q] at e
              cases e
              obtain ⟨y, ey, ry⟩ := s.slots i _ q1
              rw [h1] at ey
              cases ey
              exact .d ry (args0 s h2 q l)
theorem args1 (s : SR K T Z H0 B F0 F env σ H) {i : Nat} : ∀ {as : List AV} {xs : List V} {args : List SV}, AVs K F σ xs as → mkArgs env as = some args → lentS env as = [i] → ∃ a t ys, env[i]? = some (some (.own t ys)) ∧ (σ : List (Option V))[i]? = some (some (V.ref a)) ∧ ArgsR K F H [a] xs args
  | [], _, _, h, e, l => by cases l
  | a :: as, _, args, h, e, l => by
    cases h with
    | @v x d xs as h1 h2 =>
      simp only [mkArgs] at e
      cases q : mkArgs env as with
      | none => rw [q] at e; cases e
      | some r =>
        rw [q] at e
        cases e
        obtain ⟨a, t, ys, e1, e2, e3⟩ := args1 s h2 q l
        exact ⟨a, t, ys, e1, e2, .d h1 e3⟩
    | @s x j xs as h1 h2 =>
      simp only [mkArgs] at e
      simp only [lentS] at l
      cases q1 : env[j]? with
      | none => rw [q1] at e; cases e
      | some o =>
        rw [q1] at e l
        cases o with
        | none => cases e
        | some u =>
          cases u with
          | own t ys =>
            simp only at e l
            injection l with l1 l2
            subst l1
            cases q : mkArgs env as with
            | none => rw [q] at e; cases e
            | some r =>
              rw [q] at e
              cases e
              obtain ⟨y, ey, a, vs, ea, g1, g2, g3, g4, g5⟩ := s.slots j _ q1
              rw [h1] at ey
              cases ey
              subst ea
              exact ⟨a, t, ys, q1, h1, .own g1 g2 g4 (args0 s h2 q l2)⟩
          | d d =>
            simp only at e l
            cases q : mkArgs env as with
            | none => rw [q] at e; cases e
            | some r =>
              rw [q] at e
              cases e
              obtain ⟨y, ey, ry⟩ := s.slots j _ q1
              rw [h1] at ey
              cases ey
              obtain ⟨a, t, ys, e1, e2, e3⟩ := args1 s h2 q l
              exact ⟨a, t, ys, e1, e2, .d ry e3⟩
/-- behind a call to which nothing was lent -/
theorem SR.called0 {F' H' : Hp} {out : List D} (s : SR K T Z H0 B F0 F env σ H) (e : EndR K T F H [] out F' H') : SR K T Z H0 B F0 F' env σ H' := by
  have kp : ∀ b vs, H b = some (.lst vs) → H' b = some (.lst vs) := fun b vs q => e.keep b _ q (by simp) (.inr fun ps z => by cases z)
  refine ⟨e.sub, e.pure, s.sub0.trans e.ext, fun b h1 h2 => e.new b (s.new b h1 h2) (s.live b h2), fun b o h1 h2 h3 => e.keep b o (s.keep b o h1 h2 h3) (by simp) h3, e.tabs, fun b hb => ⟨e.new b (s.bor b hb).1 (s.live b (s.bor b hb).2), (s.bor b hb).2⟩,
    fun b h => e.live b (s.live b h), s.len, fun b o h => ?_, fun b h => ?_, fun i v h => ?_, s.apart⟩
  · obtain ⟨_, vs, q⟩ := s.zf b (by rw [h]; simp)
    rw [h] at q
    cases q
    exact kp b vs (s.prot b _ h)
  · obtain ⟨q1, vs, q2⟩ := s.zf b h
    exact ⟨e.new b q1 (L0.lst (s.prot b _ q2)), vs, q2⟩
  · obtain ⟨x, ex, r⟩ := s.slots i v h
    refine ⟨x, ex, r.mono e.ext fun a vs g1 g2 g3 => ⟨kp a vs g1, e.new a g2 (L0.lst g1)⟩⟩
theorem SR.called1 {F' H' : Hp} {out : List D} {i t : Nat} {ys : List D} {a : Addr} (s : SR K T Z H0 B F0 F env σ H) (h1 : env[i]? = some (some (.own t ys))) (h2 : (σ : List (Option V))[i]? = some (some (V.ref a))) (e : EndR K T F H [a] out F' H') :
    SR K T Z H0 B F0 F' (env.set i (some (.own t out))) σ H' := by
  obtain ⟨x, ex, c, us, ec, hc, fc, zc, rc, tc⟩ := s.slots i _ h1
  rw [h2] at ex
  cases ex
  cases ec
  have kp : ∀ b vs, H b = some (.lst vs) → b ≠ a → H' b = some (.lst vs) := fun b vs q n => e.keep b _ q (by simp [n]) (.inr fun ps z => by cases z)
  have hl : i < env.length := (List.getElem?_eq_some_iff.mp h1).1
  obtain ⟨la, ws, hw, rw'⟩ := e.lent a (by simp)
  have own_i : ∀ l, isOwn (env.set i (some (.own t out)))[l]? = true → isOwn env[l]? = true := fun l h => by
    by_cases q : l = i
    · subst q
      rw [h1]
      rfl
    · rw [List.getElem?_set_ne (Ne.symm q)] at h
      exact h
  refine ⟨e.sub, e.pure, s.sub0.trans e.ext, fun b g1 g2 => e.new b (s.new b g1 g2) (s.live b g2), fun b o g1 g2 g3 => ?_, e.tabs, fun b hb => ⟨e.new b (s.bor b hb).1 (s.live b (s.bor b hb).2), (s.bor b hb).2⟩,
    fun b h => e.live b (s.live b h), by simpa using s.len, fun b o h => ?_, fun b h => ?_, fun j v ej => ?_, fun j k b hj hk => s.apart j k b (own_i j hj) (own_i k hk)⟩
  · have n : b ≠ a := fun z => by
      subst z
      cases t with
      | zero =>
        exact absurd ⟨_, g1, g3⟩ (show ¬ L0 T H0 b from tc)
      | succ k => exact g2 (List.mem_of_getElem? (show B[k]? = some b from tc))
    exact e.keep b o (s.keep b o g1 g2 g3) (by simp [n]) g3
  · obtain ⟨_, vs, q⟩ := s.zf b (by rw [h]; simp)
    rw [h] at q
    cases q
    exact kp b vs (s.prot b _ h) (fun z => by subst z; rw [zc] at h; cases h)
  · obtain ⟨q1, vs, q2⟩ := s.zf b h
    exact ⟨e.new b q1 (L0.lst (s.prot b _ q2)), vs, q2⟩
  · by_cases q : j = i
    · subst q
      rw [List.getElem?_set_self hl] at ej
      cases ej
      exact ⟨.ref a, h2, a, ws, rfl, hw, la, zc, rw', tc⟩
    · rw [List.getElem?_set_ne (Ne.symm q)] at ej
      obtain ⟨x, ex2, rx⟩ := s.slots j v ej
      refine ⟨x, ex2, ?_⟩
      cases v with
      | d d => exact Rep.mono e.ext rx
      | own t2 zs =>
        obtain ⟨c, vs, ec, hc2, fc2, zc2, rc2, tc2⟩ := rx
        have z : c ≠ a := fun z => by
          subst z
          subst ec
          exact q (s.apart j i c (by rw [ej]; rfl) (by rw [h1]; rfl) ex2 h2)
        exact ⟨c, vs, ec, kp c vs hc2 z, e.new c fc2 (L0.lst hc2), zc2, RepAll.mono e.ext rc2, tc2⟩
/-- what a call gives is fresh to the caller -/
theorem FR.of_call {F' H' : Hp} {env' : Ev} {Bc : List Addr} {v : SV} {x : V} (s : SR K T Z H0 B F0 F env σ H) (r : SVR K T Z0 H Bc F' H' v x) (h : ∀ t xs, v = .own t xs → t = 0) (he : ∀ i : Nat, isOwn env'[i]? = true → isOwn env[i]? = true) : FR K T Z H0 B F' H' env' σ v x := by
  cases v with
  | d d => exact FR.datum r
  | own t xs =>
    cases h t xs rfl
    obtain ⟨a, vs, rfl, h1, h2, _, h4, h5⟩ := r
    have h5 : ¬ L0 T H a := h5
    have hz : Z a = none := by
      cases q : Z a with
      | none => rfl
      | some o =>
        obtain ⟨_, us, q2⟩ := s.zf a (by rw [q]; simp)
        exact absurd (L0.lst (s.prot a _ q2)) h5
    refine ⟨⟨a, vs, rfl, h1, h2, hz, h4, fun l => h5 (s.live a l)⟩, fun t ys e => ?_⟩
    cases e
    refine ⟨rfl, fun i b eb ho q => ?_⟩
    cases eb
    obtain ⟨t, zs, eo⟩ := isOwn_some (he i ho)
    obtain ⟨y, ey, c, us, ec, g1, _⟩ := s.slots i _ eo
    rw [q] at ey
    cases ey
    cases ec
    exact h5 (L0.lst g1)
theorem call_post {f : Fn} {as : List AV} {xs : List V} {n : Nat} {Q : VK} (s : SR K T Z H0 B F0 F env σ H) (ha : AVs K F σ xs as) (hn : as.length = n) (p : Post K mg T W Z H0 B F0 F (fun F' H' env' v => ∀ x, FR K T Z H0 B F' H' env' σ v x → Q x H')
    (match mkArgs env as with
      | none => ⟨.error default, env, false⟩
      | some args => (match lentS env as with
        | [] => ⟨(f args).val, env, (f args).good⟩
        | [i] => ⟨(f args).val, putBack (f args).out env [i], (f args).good⟩
        | _ => ⟨.error default, env, false⟩)) σ) : spF K mg T n f xs H Q (WE W σ) := by
  have ln : ∀ {as : List AV} {args : List SV}, mkArgs env as = some args → args.length = as.length := fun {as} => by
    induction as with
    | nil => intro args e; cases e; rfl
    | cons a r ih =>
      intro args e
      cases a with
      | v d =>
        simp only [mkArgs] at e
        cases q : mkArgs env r with
        | none => rw [q] at e; cases e
        | some l => rw [q] at e; cases e; rw [List.length_cons, List.length_cons, ih q]
      | s i =>
        simp only [mkArgs] at e
        split at e
        · cases q : mkArgs env r with
          | none => rw [q] at e; cases e
          | some l => rw [q] at e; cases e; rw [List.length_cons, List.length_cons, ih q]
        · cases q : mkArgs env r with
          | none => rw [q] at e; cases e
          | some l => rw [q] at e; cases e; rw [List.length_cons, List.length_cons, ih q]
        · cases e
  cases em : mkArgs env as with
  | none =>
    rw [em] at p
    cases p.1
  | some args =>
    rw [em] at p
    simp only at p
    cases el : lentS env as with
    | nil =>
      rw [el] at p
      refine ⟨[], F, args, s.sub, s.pure, s.tabs, args0 s ha em el, by rw [ln em, hn], p.1, fun F' H' e => ?_⟩
      have s' := s.called0 e
      have q := p.2
      simp only at q
      cases ev : (f args).val with
      | ok v =>
        rw [ev] at q
        exact fun x r h => q F' H' e.ext s' x (FR.of_call s r h fun i h => h)
      | error x =>
        rw [ev] at q
        exact fun cls dx r => q F' H' cls dx e.ext s' r
    | cons i r =>
      cases r with
      | cons j r =>
        rw [el] at p
        cases p.1
      | nil =>
        rw [el] at p
        obtain ⟨a, t, ys, e1, e2, e3⟩ := args1 s ha em el
        refine ⟨[a], F, args, s.sub, s.pure, s.tabs, e3, by rw [ln em, hn], p.1, fun F' H' e => ?_⟩
        have s' := s.called1 e1 e2 e
        have eb : putBack (f args).out env [i] = env.set i (some (.own t (f args).out)) := by
          simp only [putBack, e1]
        have q := p.2
        simp only [eb] at q
        cases ev : (f args).val with
        | ok v =>
          rw [ev] at q
          refine fun x r h => q F' H' e.ext s' x (FR.of_call s r h fun j h => ?_)
          by_cases z : j = i
          · subst z
            rw [e1]
            rfl
          · rw [List.getElem?_set_ne (Ne.symm z)] at h
            exact h
        | error x =>
          rw [ev] at q
          exact fun cls dx r => q F' H' cls dx e.ext s' r
end
section
variable {X : Cx} {T : Tab} {W : L2.WX} {e : Expr} {es : List Expr} {pos p : Pos} {x : Str} {k : Nat} {f : Addr} {fd : FuncData} {ps : List Str} {fn : Fn}
def AL (m : M (List AV)) (n : Nat) : Prop := ∀ env as, (m env).val = .ok as → as.length = n
structure DVn (X : Cx) (T : Tab) (W : L2.WX) (es : List Expr) (m : M (List AV)) (n : Nat) : Prop where
  dv : DV X T W es m
  al : AL m n
theorem al_bnd {α : Type} {m : M α} {k : α → M (List AV)} {n : Nat} (h : ∀ x, AL (k x) n) : AL (bnd m k) n := fun env as e => by
  unfold bnd at e
  generalize m env = o at e
  obtain ⟨v, e1, g⟩ := o
  cases v with
  | error x => cases e
  | ok x => exact h x e1 as e
theorem al_ret {as : List AV} {n : Nat} (h : as.length = n) : AL (ret as) n := fun env bs e => by
  cases e
  exact h
theorem dv_nil0 : DV X T W [] nilV := PA.imp pa_nil fun σ H Q ⟨Z, H0, B, F0, F, env, s, p⟩ => p.2 F H (Same.refl _) s [] .nil
theorem dv_cons0 {m : M D} {r : M (List AV)} (ha : DE X T W e m) (hr : DV X T W es r) (hs : starEach (e :: es) X.env = (false, eval e X.env) :: starEach es X.env := by rfl) : DV X T W (e :: es) (consV m r) :=
  PA.imp (pa_cons ha hr hs) fun σ H Q ⟨Z, H0, B, F0, F, env, s, p⟩ => ⟨Z, H0, B, F0, F, env, s, p.bnd.imp fun F1 H1 d f1 s1 p1 x rx =>
    ⟨Z, H0, B, F0, F1, _, s1, p1.bnd.imp fun F2 H2 as f2 s2 p2 xs rs => p2.2 F2 H2 (Same.refl _) s2 (x :: xs) (.v (rx.mono f2) rs)⟩⟩
theorem dv_lend0 {i : Nat} {r : M (List AV)} (ha : PE X e (tVar i)) (hr : DV X T W es r) (hs : starEach (e :: es) X.env = (false, eval e X.env) :: starEach es X.env := by rfl) : DV X T W (e :: es) (consL i r) :=
  PA.imp (pa_cons ha hr hs) fun σ H Q ⟨Z, H0, B, F0, F, env, s, p⟩ => by
    unfold consL at p
    cases q : env[i]? with
    | none => rw [q] at p; cases p.1
    | some o =>
      rw [q] at p
      cases o with
      | none => cases p.1
      | some v =>
        obtain ⟨x, ex, _⟩ := s.slots i _ q
        exact ⟨x, ex, Z, H0, B, F0, F, env, s, p.bnd.imp fun F2 H2 as f2 s2 p2 xs rs => p2.2 F2 H2 (Same.refl _) s2 (x :: xs) (.s ex rs)⟩
theorem dv_nil : DVn X T W [] nilV 0 := ⟨dv_nil0, fun env as e => by cases e; rfl⟩
theorem dv_cons {n : Nat} {m : M D} {r : M (List AV)} (ha : DE X T W e m) (hr : DVn X T W es r n) (hs : starEach (e :: es) X.env = (false, eval e X.env) :: starEach es X.env := by rfl) : DVn X T W (e :: es) (consV m r) (n + 1) :=
  ⟨dv_cons0 ha hr.dv hs, al_bnd fun d env as e => by
    unfold bnd at e
    have q := hr.al env
    generalize r env = o at e q
    obtain ⟨v, e1, g⟩ := o
    cases v with
    | error x => cases e
    | ok x =>
      cases e
      rw [List.length_cons, q x rfl]⟩
theorem dv_lend {n i : Nat} {r : M (List AV)} (ha : PE X e (tVar i)) (hr : DVn X T W es r n) (hs : starEach (e :: es) X.env = (false, eval e X.env) :: starEach es X.env := by rfl) : DVn X T W (e :: es) (consL i r) (n + 1) :=
  ⟨dv_lend0 ha hr.dv hs, fun env as e => by
    unfold consL bnd at e
    have q := hr.al env
    split at e
    · generalize r env = o at e q
      obtain ⟨v, e1, g⟩ := o
      cases v with
      | error x => cases e
      | ok x =>
        cases e
        rw [List.length_cons, q x rfl]
    · cases e⟩
theorem oe_call {m : M (List AV)} (hF : FnD X.prog X.w X.K X.mg X.base T k f fd ps fn) (hr : Room k X.A) (hg : Gl X x) (hm : X.mg x = some (.ref f)) (hk : PySem.W.keepIn X.K (.ref f) = true) (hb : Binds X.K fd ps []) (tk : L2N.Takes X W)
    (hv : DVn X T W (e :: es) m ps.length) (hdb : (x == ("__debug__" : Str)) = false := by decide) (he : starEach (e :: es) X.env = (false, eval e X.env) :: starEach es X.env := by rfl) (hpl : (backTo pos (starEach es X.env)).any (·.1) = false := by rfl) :
    OE X T W (.Call (.Name x p) (e :: es) [] pos) (callM fn m) :=
  PE.imp (pe_callS (E := WE W) hF hr hg hm hk hb (fun σ => L2N.passAt tk σ) hv.dv hdb he hpl) fun σ H Q ⟨Z, H0, B, F0, F, env, s, p⟩ => ⟨Z, H0, B, F0, F, env, s, by
    have pb := Post.bnd (m := m) p
    refine ⟨pb.1, ?_⟩
    cases q : (m env).val with
    | error x =>
      have z := pb.2
      rw [q] at z
      exact z
    | ok as =>
      have z := pb.2
      rw [q] at z
      exact fun F1 H1 f1 s1 xs ha => call_post s1 ha (hv.al env as q) (z F1 H1 f1 s1)⟩
theorem run_fnS0 {CX : CXT} {sp : Sp} {E : L2.St → XK} {pins : List (Addr × Obj)} {σ : L2.St} {H : Hp} {s : Shared} {Q : VK} (F : FnOk X.prog X.w X.K X.mg X.base CX k f fd ps sp) (hr : Room k X.A) (hb : Binds X.K fd ps []) (hx : PassesAt CX X σ (E σ))
    (I : L2.Inv X pins σ H s) (h : sp [] H Q (E σ)) : wpAny (model X.prog X.w) X.A (call (.ref f) []) (EP X pins σ Q) X.xe s := run_fnS (us := []) F hr hb hx I .nil h
theorem oe_call0 (hF : FnD X.prog X.w X.K X.mg X.base T k f fd [] fn) (hr : Room k X.A) (hg : Gl X x) (hm : X.mg x = some (.ref f)) (hk : PySem.W.keepIn X.K (.ref f) = true) (hb : Binds X.K fd [] []) (tk : L2N.Takes X W)
    (hdb : (x == ("__debug__" : Str)) = false := by decide) : OE X T W (.Call (.Name x p) [] [] pos) (callM fn nilV) := by
  refine ⟨fun pins s σ H Q I ⟨Z, H0, B, F0, F, env, sr, p⟩ => ?_⟩
  refine wpAny_Call_Name_kw (ld_glob I hg hm ?_ hdb)
  exact PySem.W.callWith_K0 I.kIn hk (run_fnS0 (E := WE W) hF hr hb (L2N.passAt tk σ) I (call_post sr .nil rfl (Post.bnd (m := nilV) p |>.2 F H (Same.refl _) sr)))
end
/-- a def of the text keeps its promise -/
theorem fnD_of {P : Program} {w : World} {K : PySem.W.Frag} {mg : Str → Option Value} {base : Heap} {T : Tab} {k : Nat} {f : Addr} {name qual : Str} {params : Arguments} {body : List Stmt} {scope : Scope} {dV kV doc pm cdv ct oc : Value} {an od : Option Addr}
    {osl : Array (Option Value)} {N ps : List Str} {m : MS} (lk : K.lookup f = some ⟨oc, od, .func (PySem.W.fnOf name qual params body scope dV kV doc pm an cdv ct), osl⟩) (hcd : PySem.W.codeIn K cdv qual = true) (S : FnScope N ps scope)
    (hbody : ∀ (A : Around) (outer : List Env) (s : Shared) (H : Hp) (E : XK), Room k (A.deeper (envOfC qual scope s.heap.objs.size f cdv)) → L2N.Takes (cxOf (L2N.CX P w) P w K mg base N qual scope f cdv A outer s H E) (fun cls d _ H => E cls d H) →
      DSs (cxOf (L2N.CX P w) P w K mg base N qual scope f cdv A outer s H E) T (fun cls d _ H => E cls d H) body m) :
    FnD P w K mg base T (k + 1) f (PySem.W.fnOf name qual params body scope dV kV doc pm an cdv ct) ps (runDef N.length m) :=
  fn_of lk hcd S (fun vs H Q E h => spF.len h) fun A outer s H vs Q E hr h => by
    refine ⟨_, hbody A outer s H E hr (L2N.takes_of rfl rfl rfl rfl), ?_⟩
    have hpl : ps.length ≤ N.length := by have := congrArg List.length S.pre; rw [List.length_take] at this; omega
    exact body_post (W := fun cls d _ H => E cls d H) (fun _ _ _ _ h => h) hpl h
end DL
set_option maxHeartbeats 1000000
/-! Lists of one's own, in place; isinstance; chains; texts. -/
namespace DL
open PySem PySem.Spec PyProof.Rows L2
def isSome2 (e : Option (Option SV)) : Bool := match e with
  | some (some _) => true
  | _ => false
/-- slot[index] -/
def atS (i : Nat) (d : D) : M D := fun env => match env[i]? with
  | some (some (.own _ xs)) => atF (.lst xs) d env
  | some (some (.d x)) => atF x d env
  | _ => ⟨.error default, env, false⟩
def ixV (i : Nat) (mb : M D) : M D := fun env => if isSome2 env[i]? then bnd mb (atS i) env else ⟨.error default, env, false⟩
def lenV (i : Nat) : M D := fun env => match env[i]? with
  | some (some (.own _ xs)) => ⟨.ok (.int xs.length), env, true⟩
  | some (some (.d x)) => lenF [x] env
  | _ => ⟨.error default, env, false⟩
def putAt (i : Nat) (d k : D) : MS := fun env => match k, env[i]? with
  | .int k, some (some (.own t xs)) => (match ixN xs.length k with
    | some j => ⟨.next, env.set i (some (.own t (xs.set j d))), true⟩
    | none => ⟨.next, env, false⟩)
  | _, _ => ⟨.next, env, false⟩
def putS (i : Nat) (mi me : M D) : MS := bndS me fun d env => if isSome2 env[i]? then bndS mi (putAt i d) env else ⟨.next, env, false⟩
def appAt (i : Nat) (d : D) : MS := fun env => match env[i]? with
  | some (some (.own t xs)) => ⟨.next, env.set i (some (.own t (xs ++ [d]))), decide (xs.length < mx)⟩
  | _ => ⟨.next, env, false⟩
def appS (i : Nat) (me : M D) : MS := fun env => if isOwn env[i]? then bndS me (appAt i) env else ⟨.next, env, false⟩
section
variable {X : Cx} {T : Tab} {W : L2.WX} {a b c e o : Expr} {es : List Expr} {pos p : Pos}
theorem isSome2_var {K : PySem.W.Frag} {Z H0 : Hp} {B : List Addr} {F0 F : Hp} {env : Ev} {σ : L2.St} {H : Hp} (s : SR K T Z H0 B F0 F env σ H) {i : Nat} (h : isSome2 env[i]? = true) : ∃ x : V, (σ : List (Option V))[i]? = some (some x) := by
  cases q : env[i]? with
  | none => rw [q] at h; cases h
  | some o =>
    rw [q] at h
    cases o with
    | none => cases h
    | some v =>
      obtain ⟨x, ex, _⟩ := s.slots i v q
      exact ⟨x, ex⟩
theorem atF_post {mg : Str → Option Value} {Z H0 : Hp} {B : List Addr} {F0 F : Hp} {env : Ev} {σ : L2.St} {H : Hp} {Q : VK} {x y : V} {u v : D} (s : SR X.K T Z H0 B F0 F env σ H) (rx : Rep X.K F x u) (ry : Rep X.K F y v)
    (p : Post X.K mg T W Z H0 B F0 F (fun F' H' _ d => ∀ x, Rep X.K F' x d → Q x H') (atF u v env) σ) : rIx X.K x y H Q := by
  unfold atF at p
  cases ry with
  | int i =>
    cases rx with
    | @tup q vs ds h1 h2 =>
      cases e : atI ds i with
      | none =>
        simp only [items, e] at p
        cases p.1
      | some d =>
        simp only [items, e] at p
        obtain ⟨v, e2, rv⟩ := at_rep h2 e
        exact .inr (.inl ⟨q, vs, i, v, rfl, rfl, sameT s.sub h1, e2, p.2 F H (Same.refl _) s v rv⟩)
    | @lst q vs ds h1 h2 =>
      cases e : atI ds i with
      | none =>
        simp only [items, e] at p
        cases p.1
      | some d =>
        simp only [items, e] at p
        obtain ⟨v, e2, rv⟩ := at_rep h2 e
        exact .inl ⟨q, vs, i, v, rfl, rfl, sameL s.sub h1, e2, p.2 F H (Same.refl _) s v rv⟩
    | _ => cases p.1
  | _ => cases rx <;> cases p.1
theorem de_ixV {i : Nat} {mb : M D} (ha : PE X a (tVar i)) (hb : DE X T W b mb) (hs : PlainIx b := by intro _ _; rfl) : DE X T W (.Subscript a b pos) (ixV i mb) :=
  PE.imp (pe_ix ix_seq ha hb hs) fun σ H Q ⟨Z, H0, B, F0, F, env, s, p⟩ => by
    unfold ixV at p
    split at p
    · rename_i hi
      obtain ⟨x, ex⟩ := isSome2_var s hi
      refine ⟨x, ex, Z, H0, B, F0, F, env, s, p.bnd.imp fun F1 H1 d f1 s1 p1 y ry => ?_⟩
      unfold atS at p1
      generalize (mb env).env = env1 at s1 p1
      cases q : env1[i]? with
      | none => rw [q] at p1; cases p1.1
      | some o =>
        rw [q] at p1
        cases o with
        | none => cases p1.1
        | some v =>
          obtain ⟨x', ex', r⟩ := s1.slots i v q
          rw [ex] at ex'
          cases ex'
          cases v with
          | d d => exact atF_post s1 r ry p1
          | own t xs =>
            obtain ⟨l, vs, rfl, hl, fl, _, rl, _⟩ := r
            unfold atF at p1
            cases ry with
            | int k =>
              cases e : atI xs k with
              | none =>
                simp only [items, e] at p1
                cases p1.1
              | some d =>
                simp only [items, e] at p1
                obtain ⟨v, e2, rv⟩ := at_rep rl e
                exact .inl ⟨l, vs, k, v, rfl, rfl, .inl (.inl hl), e2, p1.2 F1 H1 (Same.refl _) s1 v rv⟩
            | _ => cases p1.1
    · cases p.1
theorem de_lenV {i : Nat} (hm : X.mg "len" = none) (ha : PE X a (tVar i)) (hg : Gl X "len" := by rfl) (he : starEach [a] X.env = (false, eval a X.env) :: starEach [] X.env := by rfl) : DE X T W (.Call (.Name "len" p) [a] [] pos) (lenV i) :=
  PE.imp (pe_callB call_len hg hm (show bootBuiltins ("len" : Str) = some (.builtin "len") by decide +kernel) (pa_cons ha pa_nil he) (by decide) (by decide) he rfl) fun σ H Q ⟨Z, H0, B, F0, F, env, s, p⟩ => by
    unfold lenV at p
    cases q : env[i]? with
    | none => rw [q] at p; cases p.1
    | some o =>
      rw [q] at p
      cases o with
      | none => cases p.1
      | some v =>
        obtain ⟨x, ex, r⟩ := s.slots i v q
        refine ⟨x, ex, ?_⟩
        cases v with
        | d d => exact r_len s (.cons r .nil) p
        | own t xs =>
          obtain ⟨l, vs, rfl, hl, fl, _, rl, _⟩ := r
          refine ⟨_, vs.length, rfl, .inl ⟨vs, .inl (.inl hl), rfl⟩, p.2 F H (Same.refl _) s _ ?_⟩
          rw [RepAll.length rl]
          exact .int _
theorem ds_put {i : Nat} {mi me : M D} {tpos : Pos} (ho : PE X o (tVar i)) (hi : DE X T W b mi) (he : DE X T W e me) (ha : ∀ v, assign (.Subscript o b tpos) X.env v = (do
      let ov ← holding [v] (eval o X.env)
      let iv ← holding [v, ov] (eval b X.env)
      standAt tpos
      holding [v, ov, iv] (setItem ov iv v)
      release [v, ov, iv] []) := by intro _; rfl) (hs : swapsWithSole [.Subscript o b tpos] e pos.line X.env = pure false := by rfl) (hw : swappedStores [.Subscript o b tpos] e X.env = pure none := by rfl)
    (h1 : (assignEach [.Subscript o b tpos] X.env).map (·.2) = [assign (.Subscript o b tpos) X.env] := by rfl) : DS X T W (.Assign [.Subscript o b tpos] e pos) (putS i mi me) :=
  PS.imp (ps_asg he (pg_sub ho hi set_list ha) hs hw h1) fun D σ H ⟨Z, H0, B, F0, F, env, s, p⟩ => ⟨Z, H0, B, F0, F, env, s, (PostS.bnd p).imp fun F1 H1 d f1 s1 p1 x rx => by
    generalize (me env).env = env1 at s1 p1
    split at p1
    · rename_i hi
      obtain ⟨y, ey⟩ := isSome2_var s1 hi
      refine ⟨y, ey, Z, H0, B, F0, F1, env1, s1, (PostS.bnd p1).imp fun F2 H2 k f2 s2 p2 z rz => ?_⟩
      generalize (mi env1).env = env2 at s2 p2
      unfold putAt at p2
      cases rz with
      | int k =>
        cases q : env2[i]? with
        | none => rw [q] at p2; cases p2.1
        | some o =>
          rw [q] at p2
          cases o with
          | none => cases p2.1
          | some v =>
            cases v with
            | d d => cases p2.1
            | own t xs =>
              obtain ⟨x', ex', l, vs, rfl, hl, fl, zl, rl, tl⟩ := s2.slots i _ q
              rw [ey] at ex'
              cases ex'
              simp only at p2
              cases hj : ixN xs.length k with
              | none => rw [hj] at p2; cases p2.1
              | some j =>
                rw [hj] at p2
                exact ⟨l, vs, k, j, rfl, rfl, hl, by rw [RepAll.length rl]; exact hj, p2.2 F2 σ _ (Same.refl _) (s2.mutated q ey (rl.set j (rx.mono f2)))⟩
      | _ => cases p2.1
    · cases p1.1⟩
theorem ds_app {i : Nat} {me : M D} {apos cpos : Pos} (ho : PE X o (tVar i)) (he : DE X T W e me) (hs : starEach [e] X.env = (false, eval e X.env) :: starEach [] X.env := by rfl)
    (hbase : attributeBase o "append" X.env (eval o X.env) = eval o X.env := by rfl)
    (hfew : ((backTo cpos (starEach [e] X.env)).all (fun x => !x.1) && (backToKw cpos (keywordEach [] X.env)).all (fun x => x.1.isSome)
      && decide ([e].length + ([] : List Keyword).length + (if ([] : List Keyword).isEmpty then 0 else 1) < 30)) = true := by rfl)
    (hline : (apos.endLine == cpos.line) = true := by rfl) (hsw : swapsWith (.Call (.Attribute o "append" apos) [e] [] cpos) none pos.line X.env = pure false := by rfl) :
    DS X T W (.Expr (.Call (.Attribute o "append" apos) [e] [] cpos) pos) (appS i me) :=
  PS.imp (ps_expr (pe_bm F.plainAttrs_list F.slot_list_append F.type_list_append mt_append ho (pa_cons he pa_nil hs) hbase hfew hline hs rfl) hsw) fun D σ H ⟨Z, H0, B, F0, F, env, s, p⟩ => by
    unfold appS at p
    split at p
    · rename_i ho
      obtain ⟨t, xs, eo⟩ := isOwn_some ho
      obtain ⟨x, ex, l, vs, rfl, hl, fl, zl, rl, tl⟩ := s.slots i _ eo
      refine ⟨.ref l, ex, .inl ⟨rfl, vs, .inl (.inl hl)⟩, Z, H0, B, F0, F, env, s, (PostS.bnd p).imp fun F1 H1 d f1 s1 p1 y ry => ?_⟩
      generalize (me env).env = env1 at s1 p1
      unfold appAt at p1
      cases q : env1[i]? with
      | none => rw [q] at p1; cases p1.1
      | some o =>
        rw [q] at p1
        cases o with
        | none => cases p1.1
        | some v =>
          cases v with
          | d d => cases p1.1
          | own t xs =>
            obtain ⟨x', ex', l', us, el, hl', fl', zl', rl', tl'⟩ := s1.slots i _ q
            rw [ex] at ex'
            cases ex'
            cases el
            exact ⟨l, us, y, rfl, rfl, hl', by rw [mx_eq, RepAll.length rl']; exact of_decide_eq_true p1.1, p1.2 F1 σ _ (Same.refl _) (s1.mutated q ex (rl'.append (.cons ry .nil)))⟩
    · cases p.1

/-! ### isinstance -/
inductive TN where
  | bl | int | str | lst | tup
inductive DK where
  | non | bl | int | str | lst | tup
def DK.nm : DK → String
  | .non => "NoneType"
  | .bl => "bool"
  | .int => "int"
  | .str => "str"
  | .lst => "list"
  | .tup => "tuple"
def isTk : TN → DK → Bool
  | .bl, .bl => true
  | .int, .bl => true
  | .int, .int => true
  | .str, .str => true
  | .lst, .lst => true
  | .tup, .tup => true
  | _, _ => false
def kindD : D → DK
  | .non => .non
  | .bl _ => .bl
  | .int _ => .int
  | .str _ => .str
  | .lst _ => .lst
  | .tup _ => .tup
  | .obj _ => .non
  | .fn _ => .non
def isT (t : TN) (d : D) : Bool := isTk t (kindD d)
def plainD : D → Bool
  | .obj _ => false
  | .fn _ => false
  | _ => true
def TN.nm : TN → String
  | .bl => "bool"
  | .int => "int"
  | .str => "str"
  | .lst => "list"
  | .tup => "tuple"
theorem kit_tab (t : TN) (k : DK) : kitB k.nm t.nm = some (isTk t k) := by cases t <;> cases k <;> decide +kernel
def nmD (d : D) : String := (kindD d).nm
theorem kit_nm {K : PySem.W.Frag} (t : TN) (d : D) (h : plainD d = true) : PySem.W.kitOne K (.type (nmD d)) (.type t.nm) = some (isT t d) := kit_ty (kit_tab t (kindD d))
theorem tyx {K : PySem.W.Frag} {F H : Hp} {x : V} {d : D} (f : Same F H) (r : Rep K F x d) (h : plainD d = true) : TyX K H x (.type (nmD d)) := by
  cases r with
  | non => exact .base .non
  | bl b => exact .base (.bl b)
  | int i => exact .base (.int i)
  | str s => exact .base (.str s)
  | obj a => cases h
  | fn a => cases h
  | tup h1 h2 =>
    rcases sameT f h1 with (q | ⟨o, q⟩) | ⟨o, its, n, q, qc, _⟩
    · exact .base (.tup q)
    · exact .fTuple q
    · exact .kTuple q qc
  | lst h1 h2 =>
    rcases sameL f h1 with (q | ⟨o, q⟩) | ⟨o, its, n, q, qc, _⟩
    · exact .base (.lst q)
    · exact .base (.frz q)
    · exact .kList q qc
def isiF (t : TN) (d : D) : M D := if plainD d then ret (.bl (isT t d)) else bad
def isiE (t : TN) (m : M D) : M D := bnd m (isiF t)
theorem pe_tn {x : Str} (t : TN) (hm : X.mg x = none) (hv : bootBuiltins x = some (.type t.nm)) (hg : Gl X x := by rfl) (hn : x ≠ "__name__" := by decide) (hd : (x == ("__debug__" : Str)) = false := by decide) : PE X (.Name x p) (tC (.ty t.nm)) := pe_bltn hg hm hv rfl hn hd
theorem de_isi {m : M D} (t : TN) (hm : X.mg "isinstance" = none) (he : DE X T W e m) (ht : PE X b (tC (.ty t.nm))) (hg : Gl X "isinstance" := by rfl) (hs : starEach [e, b] X.env = (false, eval e X.env) :: starEach [b] X.env := by rfl) (hs2 : starEach [b] X.env = (false, eval b X.env) :: starEach [] X.env := by rfl)
    (hpl : (backTo pos (starEach [b] X.env)).any (·.1) = false := by rfl) : DE X T W (.Call (.Name "isinstance" p) [e, b] [] pos) (isiE t m) :=
  PE.imp (pe_callB call_isi hg hm PyProof.Rows.boot_isinstance (pa_cons he (pa_cons ht pa_nil hs2) hs) (by decide) (by decide) hs hpl) fun σ H Q ⟨Z, H0, B, F0, F, env, s, p⟩ => ⟨Z, H0, B, F0, F, env, s, p.bnd.imp fun F1 H1 d f1 s1 p1 x rx => by
    unfold isiF at p1
    split at p1
    · rename_i hp
      exact ⟨x, .ty t.nm, .type (nmD d), .type t.nm, isT t d, rfl, .ty _, tyx s1.sub rx hp, kit_nm t d hp, p1.2 F1 H1 (Same.refl _) s1 _ (.bl _)⟩
    · cases p1.1⟩
def isiF2 (t u : TN) (d : D) : M D := if plainD d then ret (.bl (isT t d || isT u d)) else bad
def isiE2 (t u : TN) (m : M D) : M D := bnd m (isiF2 t u)
theorem de_isi2 {m : M D} {kk : Nat} {tpos : Pos} (t u : TN) (hm : X.mg "isinstance" = none) (he : DE X T W e m) (ht : PE X b (tC (.ty t.nm))) (hu : PE X c (tC (.ty u.nm))) (hg : Gl X "isinstance" := by rfl) (hs : starEach [e, .Tuple [b, c] kk tpos] X.env = (false, eval e X.env) :: starEach [.Tuple [b, c] kk tpos] X.env := by rfl) (hs2 : starEach [.Tuple [b, c] kk tpos] X.env = (false, eval (.Tuple [b, c] kk tpos) X.env) :: starEach [] X.env := by rfl)
    (hpl : (backTo pos (starEach [.Tuple [b, c] kk tpos] X.env)).any (·.1) = false := by rfl) (h3 : starEach [b, c] X.env = (false, eval b X.env) :: starEach [c] X.env := by rfl) (h4 : starEach [c] X.env = (false, eval c X.env) :: starEach [] X.env := by rfl) : DE X T W (.Call (.Name "isinstance" p) [e, .Tuple [b, c] kk tpos] [] pos) (isiE2 t u m) :=
  PE.imp (pe_callB call_isiT hg hm PyProof.Rows.boot_isinstance (pa_cons he (pa_cons (pe_tup (pa_cons ht (pa_cons hu pa_nil h4) h3)) pa_nil hs2) hs) (by decide) (by decide) hs hpl) fun σ H Q ⟨Z, H0, B, F0, F, env, s, p⟩ => ⟨Z, H0, B, F0, F, env, s, p.bnd.imp fun F1 H1 d f1 s1 p1 x rx => by
    unfold isiF2 at p1
    split at p1
    · rename_i hp
      refine ⟨by show 2 ≤ sizeLine; decide, fun q hq => ?_⟩
      obtain ⟨s2, f2⟩ := s1.laidF hq (o := .tup [.ty t.nm, .ty u.nm]) trivial
      refine ⟨x, q, [.ty t.nm, .ty u.nm], .type (nmD d), [.type t.nm, .type u.nm], isT t d || isT u d, rfl, upd_same, .cons (.ty _) (.cons (.ty _) .nil), tyx s2.sub (rx.mono f2) hp, ?_, p1.2 _ _ f2 s2 _ (.bl _)⟩
      refine kitAny_cons (kit_nm t d hp) (fun h => ?_) (fun h => by rw [h]; rfl)
      rw [h, Bool.false_or]
      exact kitAny_cons (kit_nm u d hp) (fun h => by rw [h]; rfl) (fun h => h)
    · cases p1.1⟩

/-! ### chains -/
def chain2 (f g : D → D → M D) (ma mb mc : M D) : M D := bnd ma fun x => bnd mb fun y => bnd (tB (f x y)) fun k => if k then bnd mc fun z => g y z else ret (.bl false)
theorem chain_post {r r' : R2} {f g : D → D → M D} {ma mb mc : M D} {σ : L2.St} {H : Hp} {Q : VK} (hr : R2D X T W r f) (hr' : R2D X T W r' g) (h : LiftE X.K X.mg T W (chain2 f g ma mb mc) σ H Q) : tChain r r' (LiftE X.K X.mg T W ma) (LiftE X.K X.mg T W mb) (LiftE X.K X.mg T W mc) σ H Q := by
  obtain ⟨Z, H0, B, F0, F, env, s, p⟩ := h
  refine ⟨Z, H0, B, F0, F, env, s, p.bnd.imp fun F1 H1 x f1 s1 p1 xv rx => ⟨Z, H0, B, F0, F1, _, s1, p1.bnd.imp fun F2 H2 y f2 s2 p2 yv ry => ?_⟩⟩
  refine hr s2 (rx.mono f2) ry ((Post.bnd (m := f x y) (k := blF) p2.bnd).imp fun F3 H3 d f3 s3 p3 z rz => ?_)
  cases rz with
  | bl k =>
    have p4 := p3.2 F3 H3 (Same.refl _) s3
    refine ⟨k, rfl, ?_⟩
    cases k with
    | false => exact iteF (p4.2 F3 H3 (Same.refl _) s3 _ (.bl false))
    | true => exact iteT ⟨Z, H0, B, F0, F3, _, s3, (Post.bnd (m := mc) p4).imp fun F4 H4 w f4 s4 p5 wv rw' => hr' s4 ((ry.mono f3).mono f4) rw' p5⟩
  | _ => cases p3.1
theorem de_chain {op op' : CmpOp} {r r' : R2} {f g : D → D → M D} {ma mb mc : M D} (ho : OpR X (compareOp op) r) (hr : R2D X T W r f) (ho' : OpR X (compareOp op') r') (hr' : R2D X T W r' g) (ha : DE X T W a ma) (hb : DE X T W b mb) (hc : DE X T W c mc)
    (hm : lastMarks [op, op'] [b, c] = false := by with_unfolding_all rfl) : DE X T W (.Compare a [op, op'] [b, c] pos) (chain2 f g ma mb mc) := PE.imp (pe_chain ho ho' ha hb hc hm) fun σ H Q h => chain_post hr hr' h
theorem dt_chain {op op' : CmpOp} {r r' : R2} {f g : D → D → M D} {ma mb mc : M D} (ho : OpR X (compareOp op) r) (hr : R2D X T W r f) (ho' : OpR X (compareOp op') r') (hr' : R2D X T W r' g) (ha : DE X T W a ma) (hb : DE X T W b mb) (hc : DE X T W c mc)
    (hm : lastMarks [op, op'] [b, c] = false := by with_unfolding_all rfl) : DT X T W (.Compare a [op, op'] [b, c] pos) (tB (chain2 f g ma mb mc)) := PT.imp (pt_chain ho ho' ha hb hc hm) fun σ H Q ⟨Z, H0, B, F0, F, env, s, p⟩ =>
  chain_post hr hr' ⟨Z, H0, B, F0, F, env, s, p.bnd.imp fun F1 H1 d f1 s1 p1 x rx => by
    cases rx with
    | bl k => exact ⟨k, rfl, p1.2 F1 H1 (Same.refl _) s1⟩
    | _ => cases p1.1⟩

/-! ### texts -/
def strsOf : List D → Option (List Str)
  | [] => some []
  | .str s :: r => (strsOf r).map (s :: ·)
  | _ :: _ => none
theorem strs_rep {K : PySem.W.Frag} {F : Hp} : ∀ {ds : List D} {ys : List Str} {vs : List V}, RepAll K F vs ds → strsOf ds = some ys → vs = ys.map V.str
  | [], ys, vs, h, e => by
    cases h
    cases e
    rfl
  | d :: ds, ys, vs, h, e => by
    cases h with
    | cons h1 h2 =>
      cases h1 with
      | str s =>
        simp only [strsOf] at e
        cases q : strsOf ds with
        | none => rw [q] at e; cases e
        | some zs =>
          rw [q] at e
          cases e
          rw [strs_rep h2 q]
          rfl
      | _ => cases e
def joinF (a : Str) (y : D) : M D := match items y with
  | some ds => (match strsOf ds with
    | some ys => fun e => ⟨.ok (.str (Txt.join a ys)), e, decide ((ys.map (·.length)).sum + ys.length * a.length ≤ 16777216)⟩
    | none => bad)
  | _ => bad
def joinE (ma mb : M D) : M D := bnd ma fun x => match x with
  | .str a => bnd mb (joinF a)
  | _ => bad
theorem de_join {ma mb : M D} {apos : Pos} (ho : DE X T W o ma) (he : DE X T W e mb) (hs : starEach [e] X.env = [(false, eval e X.env)] := by rfl) (hbase : attributeBase o "join" X.env (eval o X.env) = eval o X.env := by rfl) (hline : (apos.endLine == pos.line) = true := by rfl) :
    DE X T W (.Call (.Attribute o "join" apos) [e] [] pos) (joinE ma mb) := PE.imp (pe_join ho he hs hbase hline) fun σ H Q ⟨Z, H0, B, F0, F, env, s, p⟩ => by
  refine ⟨Z, H0, B, F0, F, env, s, p.bnd.imp fun F1 H1 d f1 s1 p1 x rx => ?_⟩
  cases rx with
  | str a =>
    refine ⟨⟨a, rfl⟩, Z, H0, B, F0, F1, _, s1, (Post.bnd (m := mb) (k := joinF a) p1).imp fun F2 H2 d2 f2 s2 p2 y ry => ?_⟩
    unfold joinF at p2
    cases ry with
    | @tup q vs ds h1 h2 =>
      simp only [items] at p2
      cases es : strsOf ds with
      | none => rw [es] at p2; cases p2.1
      | some ys =>
        rw [es] at p2
        have ev := strs_rep h2 es
        subst ev
        exact ⟨a, q, ys, rfl, rfl, .inr (sameT s2.sub h1), of_decide_eq_true p2.1, p2.2 F2 H2 (Same.refl _) s2 _ (.str _)⟩
    | @lst q vs ds h1 h2 =>
      simp only [items] at p2
      cases es : strsOf ds with
      | none => rw [es] at p2; cases p2.1
      | some ys =>
        rw [es] at p2
        have ev := strs_rep h2 es
        subst ev
        exact ⟨a, q, ys, rfl, rfl, .inl (sameL s2.sub h1), of_decide_eq_true p2.1, p2.2 F2 H2 (Same.refl _) s2 _ (.str _)⟩
    | _ => cases p2.1
  | _ => cases p1.1
def splitF (a : Str) (y : D) : M SV := match y with
  | .str b => fun e => ⟨.ok (.own 0 ((Txt.split a b).map .str)), e, !(b.length == 0) && decide (a.length + 2 ≤ mx)⟩
  | _ => bad
def splitE (ma mb : M D) : M SV := bnd ma fun x => match x with
  | .str a => bnd mb (splitF a)
  | _ => bad
theorem strs_all {K : PySem.W.Frag} {F : Hp} : ∀ ys : List Str, RepAll K F (ys.map V.str) (ys.map D.str)
  | [] => .nil
  | y :: ys => .cons (.str y) (strs_all ys)
theorem oe_split {ma mb : M D} {apos : Pos} (ho : DE X T W o ma) (he : DE X T W e mb) (hs : starEach [e] X.env = [(false, eval e X.env)] := by rfl) (hbase : attributeBase o "split" X.env (eval o X.env) = eval o X.env := by rfl) (hline : (apos.endLine == pos.line) = true := by rfl) :
    OE X T W (.Call (.Attribute o "split" apos) [e] [] pos) (splitE ma mb) := PE.imp (pe_split ho he hs hbase hline) fun σ H Q ⟨Z, H0, B, F0, F, env, s, p⟩ => by
  refine ⟨Z, H0, B, F0, F, env, s, p.bnd.imp fun F1 H1 d f1 s1 p1 x rx => ?_⟩
  cases rx with
  | str a =>
    refine ⟨⟨a, rfl⟩, Z, H0, B, F0, F1, _, s1, (Post.bnd (m := mb) (k := splitF a) p1).imp fun F2 H2 d2 f2 s2 p2 y ry => ?_⟩
    unfold splitF at p2
    cases ry with
    | str b =>
      obtain ⟨g1, g2⟩ := Bool.and_eq_true_iff.mp (show (!(b.length == 0) && decide (a.length + 2 ≤ mx)) = true from p2.1)
      refine ⟨a, b, rfl, rfl, by simpa using g1, by rw [mx_eq]; exact of_decide_eq_true g2, fun q hq => ?_⟩
      exact p2.2 F2 _ (Same.refl _) (s2.laid hq _) _ (s2.fr_new hq (strs_all _))
    | _ => cases p2.1
  | _ => cases p1.1
end
end DL
set_option maxHeartbeats 1000000
/-! sorted(xs). -/
namespace DL
open PySem PySem.Spec PyProof.Rows L2
section
variable {α : Type} {le : α → α → Bool}
def insD (le : α → α → Bool) (x : α) : List α → List α
  | [] => [x]
  | y :: r => if le x y then x :: y :: r else y :: insD le x r
def isortD (le : α → α → Bool) : List α → List α
  | [] => []
  | x :: r => insD le x (isortD le r)
theorem insD_mem {x y : α} : ∀ {l : List α}, y ∈ insD le x l → y = x ∨ y ∈ l
  | [], h => .inl (by simpa [insD] using h)
  | z :: r, h => by
    unfold insD at h
    split at h
    · rcases List.mem_cons.mp h with h | h
      · exact .inl h
      · exact .inr h
    · rcases List.mem_cons.mp h with h | h
      · exact .inr (by rw [h]; exact List.mem_cons_self)
      · rcases insD_mem h with h | h
        · exact .inl h
        · exact .inr (List.mem_cons_of_mem _ h)
theorem insD_sorted (T : PySem.W.TotalLe le) {x : α} : ∀ {l : List α}, l.Pairwise (fun a b => le a b = true) → (insD le x l).Pairwise (fun a b => le a b = true)
  | [], _ => by simp [insD]
  | z :: r, h => by
    unfold insD
    obtain ⟨h1, h2⟩ := List.pairwise_cons.mp h
    split
    · rename_i hx
      refine List.pairwise_cons.mpr ⟨fun y hy => ?_, h⟩
      rcases List.mem_cons.mp hy with e | hy
      · rw [e]
        exact hx
      · exact T.trans _ _ _ hx (h1 y hy)
    · rename_i hx
      refine List.pairwise_cons.mpr ⟨fun y hy => ?_, insD_sorted T h2⟩
      rcases insD_mem hy with e | hy
      · rw [e]
        exact (T.total x z).resolve_left hx
      · exact h1 y hy
theorem insD_filter (T : PySem.W.TotalLe le) {x c : α} : ∀ {l : List α}, (insD le x l).filter (PySem.W.sameRank le c) = (x :: l).filter (PySem.W.sameRank le c)
  | [] => rfl
  | z :: r => by
    unfold insD
    split
    · rfl
    · rename_i hx
      rw [List.filter_cons, insD_filter T (l := r), List.filter_cons, List.filter_cons, List.filter_cons]
      cases hz : PySem.W.sameRank le c z with
      | false => simp
      | true =>
        cases hc : PySem.W.sameRank le c x with
        | false => simp
        | true =>
          unfold PySem.W.sameRank at hz hc
          rw [Bool.and_eq_true] at hz hc
          exact absurd (T.trans _ _ _ hc.2 hz.1) hx
theorem isortD_sorted (T : PySem.W.TotalLe le) : ∀ l : List α, (isortD le l).Pairwise (fun a b => le a b = true)
  | [] => .nil
  | x :: r => insD_sorted T (isortD_sorted T r)
theorem isortD_filter (T : PySem.W.TotalLe le) (c : α) : ∀ l : List α, (isortD le l).filter (PySem.W.sameRank le c) = l.filter (PySem.W.sameRank le c)
  | [] => rfl
  | x :: r => by
    show (insD le x (isortD le r)).filter _ = _
    rw [insD_filter T, List.filter_cons, isortD_filter T c r, List.filter_cons]
theorem isortD_eq (T : PySem.W.TotalLe le) (l : List α) : isortD le l = l.mergeSort le := PySem.W.sort_unique T (isortD_sorted T l) fun c => isortD_filter T c l
end
def leD (a b : D) : Bool := !PySem.W.dataLt b.py a.py
theorem leD_eq : leD = PySem.W.dataLe false D.py := rfl
theorem leD_total : PySem.W.TotalLe leD := show PySem.W.TotalLe (PySem.W.sortLe (listOrd itemOrd) false fun b : D => PySem.W.keyToks b.py) from PySem.W.sortLe_total (listOrd itemOrd) false fun b : D => PySem.W.keyToks b.py
def sortD (xs : List D) : List D := isortD leD xs
theorem sortD_eq (xs : List D) : sortD xs = xs.mergeSort (PySem.W.dataLe false D.py) := isortD_eq leD_total xs
def isTupD : D → Bool
  | .tup _ => true
  | _ => false
def isConsD : D → Bool
  | .tup (_ :: _) => true
  | _ => false
def noTupD : D → Bool
  | .tup _ => false
  | .non => false
  | _ => true
def sortOk (xs : List D) : Bool := xs.all (fun x => xs.all fun y => PySem.W.alike x.py y.py) && (xs.all fun x => x.shp && decide (x.py.depth ≤ 20)) && (xs.all isConsD || xs.all noTupD || (match xs with
  | .tup [] :: r => r.all isTupD
  | _ => false)) && decide (xs.length ≤ mx)
def sortF : List D → M SV
  | [.lst xs] => fun e => ⟨.ok (.own 0 (sortD xs)), e, sortOk xs⟩
  | _ => bad
end DL
namespace PySem.W
open PySem PySem.Calls PyProof.Rows
section
variable {prog : Program} {w : World} {A : Around} {E : Value → Shared → Prop} {s : Shared}
/-- tuples, the first one empty: compared as wholes -/
theorem oneLt_tups {xs ys : List PyData} {a b : Value} {as bs : List Addr} {Q : Bool → Shared → Prop} (ra : Reads s.heap a (.tuple xs) as) (rb : Reads s.heap b (.tuple ys) bs) (h : alike (.tuple xs) (.tuple ys) = true)
    (hu : A.units + min (PyData.tuple xs).depth (PyData.tuple ys).depth < cLine) (hq : Q (dataLt (.tuple xs) (.tuple ys)) s) : wpAny (model prog w) A (oneLt' true a b) Q E s := by
  have hal : alikeAll xs ys = true := by simpa [alike] using h
  cases ra with
  | @tuple l o vs n _ as₁ h1 h2 h3 h4 =>
    cases rb with
    | @tuple l' o' vs' n' _ bs₁ k1 k2 k3 k4 =>
      have n1 : vs.size = xs.length := by simpa using SeqAt.ReadsAll.length _ _ _ h4
      have n2 : vs'.size = ys.length := by simpa using SeqAt.ReadsAll.length _ _ _ k4
      rw [dataLt_tuple, ← firstLt_toks xs ys hal, ← n1, ← n2] at hq
      rw [oneLt'_eq]
      simp only [if_true]
      refine wpAny_bind (wpAny_cRoomFor (SeqAt.room_here hu) ?_)
      obtain ⟨cls, dd, data, sl⟩ := o
      obtain ⟨cls2, dd2, data2, sl2⟩ := o'
      simp only at h2 h3 k2 k3
      subst h2 h3 k2 k3
      refine wpAny_bind (wpAny_callSpecialIfBound?_slot (T := "tuple") ⟨_, h1, rfl⟩ F.slot_tuple_lt (call_meets F.slot_tuple_lt ⟨_, h1, rfl⟩ F.entry_tuple_lt (F.args_tuple_lt_2 _ _) (SeqAt.tuple_ltAt l l' vs vs' n n' dd dd2 sl sl2 (SeqAt.pairEq xs ys) (fun j => dataLt (xs.getD j .none) (ys.getD j .none))) ⟨h1, k1, fun j j1 j2 => ?_, fun j j1 j2 hj => ?_, ?_⟩))
      · have := eqAt_alikeAll xs ys A.in1 s vs.toList vs'.toList _ _ h4 k4 hal (SeqAt.room_in hu) j (by simpa using j1) (by simpa using j2)
        simpa using this
      · have := rcLt_alikeAll xs ys A.in1 s vs.toList vs'.toList _ _ h4 k4 hal (SeqAt.room_in hu) j (by simpa using j1) (by simpa using j2) hj
        simpa using this
      · exact wpAny_truthy_bool hq
theorem firsts_tups {M : Model} : ∀ (vs : List Value) (ds : List PyData) {Q : List (Option Value) → Shared → Prop}, EachIs (fun v d => ∃ as, Reads s.heap v d as) vs ds → (∀ d, d ∈ ds → ∃ xs, d = .tuple xs) →
    (∀ fs : List (Option Value), fs.length = vs.length → (∀ r, ds = .tuple [] :: r → fs[0]? = some none) → Q fs s) → wpAny M A (vs.mapM firstOfTuple') Q E s
  | [], _, _, e, ht, h => by
    cases e
    rw [List.mapM_nil]
    exact wpAny_pure (h [] rfl fun r q => by cases q)
  | v :: vs, _, Q, e, ht, h => by
    cases e with
    | @cons _ d _ ds e1 e2 =>
      obtain ⟨xs, rfl⟩ := ht d List.mem_cons_self
      obtain ⟨as, r⟩ := e1
      cases r with
      | @tuple a o us n _ _ h1 h2 h3 h4 =>
        rw [List.mapM_cons]
        refine wpAny_bind ?_
        rw [kas_first_eq]
        refine wpAny_bind (Looks.here (show Looks M s.heap (typeOf (.ref a)) o.cls from (Looks.ld h1).andThen .now) ?_)
        rw [h2, if_neg (by first | decide | simp)]
        refine wpAny_bind (listItems_at h1 h3 (wpAny_pure ?_))
        refine wpAny_bind (firsts_tups vs ds (Q := fun bs s' => wpAny M A (pure (us[0]? :: bs)) Q E s') e2 (fun d hd => ht d (List.mem_cons_of_mem _ hd)) fun fs hl h0 => wpAny_pure (h _ (by simp [hl]) fun r q => ?_))
        injection q with q1 q2
        injection q1 with q1
        subst q1
        have hz : us.toList = [] := by
          cases q : us.toList with
          | nil => rfl
          | cons x y =>
            rw [q] at h4
            cases h4
        have hz2 : us[0]? = none := by rw [← Array.getElem?_toList, hz]; rfl
        rw [hz2]
        rfl
theorem kind_tupsE {M : Model} {vs : List Value} {ds : List PyData} {Q : SortKind → Shared → Prop} (h2 : 2 ≤ vs.length) (e : EachIs (fun v d => ∃ as, Reads s.heap v d as) vs (.tuple [] :: ds)) (ht : ∀ d, d ∈ ds → ∃ xs, d = .tuple xs) (h : Q oneType' s) :
    wpAny M A (keyKind' vs.toArray) Q E s := by
  have ht' : ∀ d, d ∈ PyData.tuple [] :: ds → ∃ xs, d = .tuple xs := fun d hd => by
    rcases List.mem_cons.mp hd with q | q
    · exact ⟨[], q⟩
    · exact ht d q
  rw [keyKind'_eq, List.mapM_toArray, map_eq_pure_bind]
  refine wpAny_bind (wpAny_bind (firsts_tups vs _ e ht' fun fs hl h0 => wpAny_pure ?_))
  have z := h0 ds rfl
  have hne : (fs.toArray.all fun x => x.isSome) = false := by
    cases fs with
    | nil => cases z
    | cons f r =>
      cases z
      simp
  have hn2 : ((fs.toArray[0]?).bind id).isSome = false := by
    rw [List.getElem?_toArray, z]
    rfl
  rw [if_neg (by rw [hne]; decide), if_neg (by rw [hn2]; decide)]
  rw [oneTypeOnly'_eq, List.mapM_toArray, map_eq_pure_bind]
  have T : ∀ v ∈ vs, Looks M s.heap (typeOf v) (.type "tuple") := fun v hv => by
    obtain ⟨d, hd, as, r⟩ := e.left v hv
    obtain ⟨xs, rfl⟩ := ht' d hd
    exact looks_reads r
  refine wpAny_bind (wpAny_bind (wpAny_bind (kas_mapM (r := Value.type "tuple") _ (fun v hv Q' hq => (T v hv).here hq) (wpAny_pure ?_))))
  have hall : ((List.map (fun _ => Value.type "tuple") vs).toArray.all fun x => x == Value.type "tuple") = true := by
    simp only [List.all_toArray, List.all_map, List.all_eq_true]
    intro _ _
    rfl
  have h0 : (List.map (fun _ => Value.type "tuple") vs).toArray[0]? = some (Value.type "tuple") := by
    cases vs with
    | nil => simp at h2
    | cons v r => simp
  rw [h0]
  simp only [hall, if_true]
  exact wpAny_pure (wpAny_pure h)
theorem SortsAt.tupsE {vs : List Value} {ds : List PyData} (e : EachIs (fun v d => ∃ as, Reads s.heap v d as) vs (.tuple [] :: ds)) (hal : AllAlike (.tuple [] :: ds)) (ht : ∀ d, d ∈ ds → ∃ xs, d = .tuple xs) (hu : ∀ d, d ∈ PyData.tuple [] :: ds → A.units + d.depth < cLine) :
    SortsAt prog w A s (dataKind s.heap (.tuple [] :: ds)) vs := by
  have ht' : ∀ d, d ∈ PyData.tuple [] :: ds → ∃ xs, d = .tuple xs := fun d hd => by
    rcases List.mem_cons.mp hd with q | q
    · exact ⟨[], q⟩
    · exact ht d q
  refine ⟨fun v hv => ?_, oneType', ?_, fun h2 E Q hq => kind_tupsE h2 e ht hq⟩
  · obtain ⟨d, hd, as, r⟩ := e.left v hv
    exact ⟨_, dataKind_some hal hd r⟩
  · intro E x y a b Q ha hb hq
    obtain ⟨d, as, hd, ra, rfl⟩ := dataKind_inv ha
    obtain ⟨d', as', hd', rb, rfl⟩ := dataKind_inv hb
    obtain ⟨xs, rfl⟩ := ht' d hd
    obtain ⟨ys, rfl⟩ := ht' d' hd'
    rw [keyLt'_oneType]
    exact oneLt_tups ra rb (hal _ hd _ hd') (Nat.lt_of_le_of_lt (Nat.add_le_add_left (Nat.min_le_left _ _) _) (hu _ hd)) hq
end
end PySem.W
namespace DL
open PySem PySem.Spec PyProof.Rows L2
section
variable {X : Cx} {T : Tab} {W : L2.WX} {a b c e : Expr} {es : List Expr} {pos p : Pos}
/-- what sorted asks: data that can be sorted -/
def rSortD (K : PySem.W.Frag) : List V → Hp → VK → Prop := fun vs H Q => ∃ a xs ds F, vs = [.ref a] ∧ SqL K H a xs ∧ RepAll K F xs ds ∧ Same F H ∧ sortOk ds = true ∧
  ∀ p ys, H p = none → RepAll K F ys (sortD ds) → Q (.ref p) (upd H p (.lst ys))
theorem pyAll_map : ∀ ds : List D, pyAll ds = ds.map D.py
  | [] => rfl
  | d :: ds => by
    show d.py :: pyAll ds = _
    rw [pyAll_map ds]
    rfl
theorem rep_each {K : PySem.W.Frag} {F : Hp} : ∀ {ds : List D} {xs : List V} {us : List Value}, RepAll K F xs ds → Vals xs us → PySem.W.EachIs (fun u d => ∃ x : V, RelV x u ∧ Rep K F x d) us ds
  | [], _, _, h, r => by
    cases h
    cases r
    exact .nil
  | d :: ds, _, _, h, r => by
    cases h with
    | cons h1 h2 =>
      cases r with
      | cons r1 r2 => exact .cons ⟨_, r1, h1⟩ (rep_each h2 r2)
theorem each_rep {K : PySem.W.Frag} {F : Hp} : ∀ {ds : List D} {us : List Value}, PySem.W.EachIs (fun u d => ∃ x : V, RelV x u ∧ Rep K F x d) us ds → ∃ xs, Vals xs us ∧ RepAll K F xs ds
  | [], _, h => by
    cases h
    exact ⟨[], .nil, .nil⟩
  | d :: ds, _, h => by
    cases h with
    | cons h1 h2 =>
      obtain ⟨x, r1, r2⟩ := h1
      obtain ⟨xs, q1, q2⟩ := each_rep h2
      exact ⟨x :: xs, .cons r1 q1, .cons r2 q2⟩
theorem call_sortD (hu : X.A.units + 64 < cLine) : CallR X (.builtin "sorted") (rSortD X.K) := by
  intro pins s σ H vs us Q I r h
  obtain ⟨a, xs, ds, F, rfl, hs, ra, sub, ok, q⟩ := h
  obtain ⟨its, rv, hl, hz⟩ := I.list hs
  obtain ⟨u, rfl, ru⟩ := vals1 r
  obtain rfl : u = Value.ref a := ru
  have er0 := rep_each ra rv
  unfold sortOk at ok
  simp only [Bool.and_eq_true] at ok
  obtain ⟨⟨⟨ok1, ok2⟩, ok3⟩, ok4⟩ := ok
  have shp : ∀ d ∈ ds, d.shp = true ∧ d.py.depth ≤ 20 := fun d hd => by
    have z := List.all_eq_true.mp ok2 d hd
    simp only [Bool.and_eq_true] at z
    exact ⟨z.1, of_decide_eq_true z.2⟩
  have er : PySem.W.EachIs (fun v b => ∃ as, Reads s.heap v (D.py b) as) its ds := (PySem.W.each_mem er0).mono fun u d ⟨⟨x, r1, r2⟩, hd⟩ => Dp.reads I _ x u ((r2.mono sub).dp (shp_lay (shp d hd).1)) r1
  have hal : PySem.W.AllAlike (ds.map D.py) := fun d hd d' hd' => by
    obtain ⟨x, hx, rfl⟩ := List.mem_map.mp hd
    obtain ⟨y, hy, rfl⟩ := List.mem_map.mp hd'
    exact List.all_eq_true.mp (List.all_eq_true.mp ok1 x hx) y hy
  have hdep : ∀ d ∈ ds, X.A.units + 2 + d.py.depth < cLine := fun d hd => by have := (shp d hd).2; omega
  have hlen : its.length ≤ sizeLine := by rw [← rv.length]; exact hz
  have hld : ds.length ≤ sizeLine := by rw [← er.length]; exact hlen
  have er' : PySem.W.EachIs (fun v b => ∃ as, Reads (PySem.W.sortingHeap (PySem.W.copyHeap s.heap its) (s.heap.objs.size + 1) its) v (D.py b) as) its ds := er.mono fun _ _ ⟨as, r⟩ => ⟨as, PyProof.Rows.Reads.keeps (fun _ _ => PySem.W.sorting_copy_old) r⟩
  have S : PySem.W.SortsAt X.prog X.w X.A.in1.in1 { s with heap := PySem.W.sortingHeap (PySem.W.copyHeap s.heap its) (s.heap.objs.size + 1) its } (PySem.W.dataKind (PySem.W.sortingHeap (PySem.W.copyHeap s.heap its) (s.heap.objs.size + 1) its) (ds.map D.py)) its := by
    have em := PySem.W.each_map (R := fun v d => ∃ as, Reads (PySem.W.sortingHeap (PySem.W.copyHeap s.heap its) (s.heap.objs.size + 1) its) v d as) D.py er'
    have bd := PySem.W.bound_map (A := X.A.in1.in1) (enc := D.py) (bs := ds) (fun d hd => hdep d hd)
    rcases Bool.or_eq_true_iff.mp ok3 with ok3 | ok3
    · rcases Bool.or_eq_true_iff.mp ok3 with ok3 | ok3
      · refine PySem.W.SortsAt.data em hal (.inl fun d hd => ?_) bd
        obtain ⟨x, hx, rfl⟩ := List.mem_map.mp hd
        have z := List.all_eq_true.mp ok3 x hx
        cases x with
        | tup ys =>
          cases ys with
          | nil => cases z
          | cons y ys => exact ⟨_, _, rfl⟩
        | _ => cases z
      · refine PySem.W.SortsAt.data em hal (.inr fun d hd => ?_) bd
        obtain ⟨x, hx, rfl⟩ := List.mem_map.mp hd
        have z := List.all_eq_true.mp ok3 x hx
        cases x <;> first | (cases z; done) | exact ⟨(fun q => nomatch q), (fun xs q => nomatch q)⟩
    · revert em hal bd ok3
      cases ds with
      | nil => intro _ _ _ z; cases z
      | cons d ds =>
        cases d with
        | tup ys =>
          cases ys with
          | nil =>
            intro hal em bd z
            refine PySem.W.SortsAt.tupsE em hal (fun d hd => ?_) bd
            obtain ⟨x, hx, rfl⟩ := List.mem_map.mp hd
            have z := List.all_eq_true.mp z x hx
            cases x with
            | tup ys => exact ⟨_, rfl⟩
            | _ => cases z
          | cons y ys => intro _ _ _ z; cases z
        | _ => intro _ _ _ z; cases z
  refine PySem.W.sorted_vals hl.isList S hlen ?_
  have out := PySem.W.sortVals_data (h' := PySem.W.sortingHeap (PySem.W.copyHeap s.heap its) (s.heap.objs.size + 1) its) (R := fun u d => ∃ x : V, RelV x u ∧ Rep X.K F x d) (enc := D.py) false er0 er' hal
  have olen := PySem.W.sortVals_length (κ := PySem.W.dataKind (PySem.W.sortingHeap (PySem.W.copyHeap s.heap its) (s.heap.objs.size + 1) its) (ds.map D.py)) false (ks := its) (vs := its) rfl
  rw [← sortD_eq] at out
  obtain ⟨ys, q1, q2⟩ := each_rep out
  obtain ⟨n, hn⟩ := PyProof.Rows.sortedAll_at s.heap its (PySem.W.sortVals (PySem.W.dataKind (PySem.W.sortingHeap (PySem.W.copyHeap s.heap its) (s.heap.objs.size + 1) its) (ds.map D.py)) false its its).toArray
  exact ⟨.ref (s.heap.objs.size + 1), upd H (s.heap.objs.size + 1) (.lst ys), I.laid (t' := s.toks) (fun _ _ q => PyProof.Rows.sortedAll_old q) (Nat.le_succ _) ⟨by rw [q1.length, olen]; exact hlen, _, n, q1, hn⟩, rfl, q _ ys (I.hok.fresh (Nat.le_succ _)) q2⟩
theorem r_sort : RAO X T W (rSortD X.K) sortF := fun {Z H0 B F0 F env σ H Q xs ds} s rx p => by
  unfold sortF at p
  split at p
  · obtain ⟨x, rfl, r⟩ := rep1 rx
    cases r with
    | lst h1 h2 => exact ⟨_, _, _, F, rfl, sameL s.sub h1, h2, s.sub, p.1, fun pp ys hp ry => p.2 F _ (Same.refl _) (s.laid hp _) _ (s.fr_new hp ry)⟩
  · cases p.1
end
end DL
set_option maxHeartbeats 2000000
/-! Within an except suite: zip of two lists in a comprehension. -/
namespace DL
open PySem PySem.Spec PyProof.Rows L2 HotX L2H
/-- the handled exception's object -/
def HotO (x1 : Addr) (h : Heap) : Prop := ∃ (o : Obj) (vs : Array Value), h.get? x1 = some o ∧ o.data = .fields vs ∧ vs[2]? = some .none
theorem HotO.at {x1 : Addr} {h h' : Heap} (x : HotO x1 h) (k : ∀ o, h.get? x1 = some o → h'.get? x1 = some o) : HotO x1 h' := by
  obtain ⟨o, vs, e, d, c⟩ := x
  exact ⟨o, vs, k o e, d, c⟩
section
variable {prog : Program} {w : World} {A : Around} {E : Value → Shared → Prop} {s : Shared}
/-- the end of an iterator, told: a StopIteration is made and raised -/
theorem stop_hot {α : Type} {x1 it : Addr} {Q : α → Shared → Prop} (hh : A.handled = some (.ref x1)) (ho : HotO x1 s.heap)
    (hE : ∀ h' e, Heap.ExtBut it s.heap h' → (∃ o, h'.get? e = some o ∧ o.cls = .type "StopIteration") → E (.ref e) { s with heap := h' }) :
    wpAny (model prog w) A (do let e ← newExc (.type "StopIteration") []; (raiseNew e : Sem α)) Q E s := by
  obtain ⟨o1, vs1, h1, d1, c1⟩ := ho
  refine wpAny_bind ?_
  simp only [newExc, newTuple]
  refine wpAny_bind (wpAny_newObj_type ?_ (by size_fits))
  refine wpAny_bind (m := firstArgMember _ _) (wpAny_of_eq (a := Value.none) (by first | rfl | (simp only [firstArgMember]; rfl)) ?_)
  refine wpAny_newObj_type ?_ (by size_fits)
  have hp := Heap.get?_push_of_some { cls := .type "tuple", data := .seq ([] : List Value).toArray } h1
  refine raiseNew_hot ⟨hh, o1, vs1, Heap.get?_push_of_some _ (Heap.get?_push_of_some _ h1), d1, c1⟩ (Nat.ne_of_lt (Heap.lt_size (Heap.get?_push_of_some _ h1))) (Heap.get?_push_size _ rfl) rfl (by first | (simp; done) | (simp; omega) | (simp only [Array.size_append]; simp; omega)) ?_
  refine hE _ _ (fun b o hb e => ?_) ⟨_, Heap.get?_update_self _ (Heap.get?_push_size _ rfl) rfl, rfl⟩
  rw [Heap.get?_update_other _ _ (Nat.ne_of_gt (Heap.lt_size (Heap.get?_push_of_some _ e)))]
  exact Heap.get?_push_of_some _ (Heap.get?_push_of_some _ e)
theorem next_list_hot {it l x1 : Addr} {i : Nat} {items : Array Value} {Q : Value → Shared → Prop} (hh : A.handled = some (.ref x1)) (hot : HotO x1 s.heap) (hne : x1 ≠ it) (hit : s.heap.IsListIter it l i) (hl : s.heap.IsList l items) (hx : items[i]? = none)
    (hE : ∀ h' e, Heap.ExtBut it s.heap h' → (∃ o, h'.get? e = some o ∧ o.cls = .type "StopIteration") → E (.ref e) { s with heap := h' }) :
    wpAny (model prog w) A (Builtin.SmallTypes.nextOf (.ref it)) Q E s := by
  obtain ⟨oi, hoi, hci, hdi⟩ := id hit
  obtain ⟨oj, hoj, _, nj, hdj⟩ := hl
  unfold Builtin.SmallTypes.nextOf
  refine wpAny_bind (wpAny_callSpecial?_slot (name := Str.ofString "__next__") hit.typeIs slot_listiter_next (wpAny_call_entry slot_listiter_next hit.typeIs entry_listiter_next ?_ (args_listiter_next _)))
  show wpAny _ _ (field (.ref it) 0 >>= _) _ _ s
  refine wpAny_bind (wpAny_field hoi hdi (x := .ref l) rfl ?_)
  show wpAny _ _ (if (Value.ref l == Value.none) = true then _ else _) _ _ s
  rw [if_neg (show ¬ ((Value.ref _ == Value.none) = true) by exact Bool.false_ne_true)]
  show wpAny _ _ (field (.ref it) 1 >>= _) _ _ s
  refine wpAny_bind (wpAny_field hoi hdi (x := .int i 0) rfl ?_)
  show wpAny _ _ (seqItems? (.ref l) >>= _) _ _ s
  refine wpAny_bind (wpAny_seqItems hoj hdj ?_)
  simp only [Int.toNat_natCast, hx]
  refine wpAny_bind (wpAny_rule (wpAny_bind (wpAny_setField hoi hdi (by simp) ?_)))
  have sb := Heap.SameBut.update s.heap it (Obj.mapFields (·.setIfInBounds 0 Value.none))
  refine stop_hot (it := it) hh (hot.at fun o e => (sb.2 x1 hne).trans e) fun h' e he hx' => ?_
  exact hE h' e (fun b o hb q => he b o hb ((sb.2 b hb).trans q)) hx'
theorem draws_hot {x1 : Addr} (hh : A.handled = some (.ref x1)) (it l : Addr) (hne : l ≠ it) (h1 : x1 ≠ it) (items : Array Value) :
    Draws prog w A it [it, l, x1] items.size (fun i v => items[i]? = some v) (fun i h => (h.IsListIter it l i ∧ h.IsList l items) ∧ HotO x1 h) where
  live := fun _ _ st => let ⟨o, ho, _⟩ := st.1.1; ⟨o, ho⟩
  frame := fun _ _ _ st hk => ⟨⟨st.1.1.at fun o e => hk it (by simp) o e, st.1.2.at fun o e => hk l (by simp) o e⟩, st.2.at fun o e => hk x1 (by simp) o e⟩
  item := fun i s Q E hi st hQ => by
    refine wpAny_nextOf_list_item st.1.1 st.1.2 (x := items[i]) (by simp [hi]) fun h' hit' hs' => ?_
    exact hQ _ h' s.toks (by simp [hi]) ⟨⟨hit', st.1.2.extBut hs'.extBut hne⟩, st.2.at fun o e => (hs'.2 x1 h1).trans e⟩ hs'
  done := fun s Q E st hE => next_list_hot hh st.2 h1 st.1.1 st.1.2 (by simp) hE
theorem next_tuple_hot {it t x1 : Addr} {i : Nat} {items : Array Value} {Q : Option Value → Shared → Prop} (hh : A.handled = some (.ref x1)) (hot : HotO x1 s.heap) (hne : x1 ≠ it)
    (hit : IsTupIter s.heap it t i) (ht : IsTup s.heap t items) (hx : items[i]? = none) (hQ : ∀ h', Heap.ExtBut it s.heap h' → Q none { s with heap := h' }) : wpAny (model prog w) A (pyNext (.ref it)) Q E s := by
  obtain ⟨oi, hoi, hci, hdi⟩ := id hit
  obtain ⟨oj, hoj, _, nj, hdj⟩ := ht
  unfold pyNext
  refine wpAny_bind (wpAny_attempt (wpAny_callSpecial?_slot (name := Str.ofString "__next__") hit.typeIs slot_tupleiter_next (wpAny_call_entry slot_tupleiter_next hit.typeIs entry_tupleiter_next ?_ (args_tupleiter_next _))))
  show wpAny _ _ (field (.ref it) 0 >>= _) _ _ s
  refine wpAny_bind (wpAny_field hoi hdi (x := .ref t) rfl ?_)
  show wpAny _ _ (if (Value.ref t == Value.none) = true then _ else _) _ _ s
  rw [if_neg (show ¬ ((Value.ref _ == Value.none) = true) by exact Bool.false_ne_true)]
  show wpAny _ _ (field (.ref it) 1 >>= _) _ _ s
  refine wpAny_bind (wpAny_field hoi hdi (x := .int i 0) rfl ?_)
  show wpAny _ _ (seqItems? (.ref t) >>= _) _ _ s
  refine wpAny_bind (wpAny_seqItems hoj hdj ?_)
  simp only [Int.toNat_natCast, hx]
  refine wpAny_bind (wpAny_rule (wpAny_bind (wpAny_setField hoi hdi (by simp) ?_)))
  have sb := Heap.SameBut.update s.heap it (Obj.mapFields (·.setIfInBounds 0 Value.none))
  refine stop_hot (it := it) hh (hot.at fun o e => (sb.2 x1 hne).trans e) fun h' e he hx' => ?_
  obtain ⟨o, ho, hc⟩ := hx'
  refine wpAny_bind (wpAny_isInstance (T := "StopIteration") (b := true) ⟨o, ho, hc⟩ isSubtype_stop ?_)
  exact wpAny_pure (hQ h' fun b o hb q => he b o hb ((sb.2 b hb).trans q))
theorem unpack_hot {t x1 : Addr} {items : Array Value} {Q : List Value → Shared → Prop} (hh : A.handled = some (.ref x1)) (hot : HotO x1 s.heap) (ht : IsTup s.heap t items)
    (hQ : ∀ h', Heap.ExtBut s.heap.objs.size s.heap h' → Q items.toList { s with heap := h' }) : wpAny (model prog w) A (unpackItems (.ref t) items.size none) Q E s := by
  have hlt : t ≠ s.heap.objs.size := by obtain ⟨o, ho, _⟩ := ht; exact Nat.ne_of_lt (Heap.lt_size ho)
  have hl1 : x1 ≠ s.heap.objs.size := by obtain ⟨o, _, ho, _⟩ := hot; exact Nat.ne_of_lt (Heap.lt_size ho)
  unfold unpackItems notIterableAtAll
  refine wpAny_bind (wpAny_bind (wpAny_specialOf ht.typeIs slot_tuple_iter.lookup (wpAny_pure ?_)))
  simp only [Bool.false_eq_true, if_false]
  refine wpAny_bind (wpAny_holding (iter_tuple ht (wpAny_bind (wpAny_holding (draw_tuple hlt items.size 0 _ _ ⟨_, Heap.get?_push_size _ rfl, rfl, rfl⟩ (ht.push _) (by omega) fun g hg sg => ?_)))))
  have hall : List.take items.size (List.drop 0 items.toList) = items.toList := by simp [List.take_of_length_le]
  rw [hall, if_neg (by simp)]
  have hg2 : HotO x1 g := (hot.at fun o e => (sg.2 x1 hl1).trans (Heap.get?_push_of_some _ e))
  refine wpAny_bind (wpAny_holding (next_tuple_hot hh hg2 hl1 hg ((ht.push _).extBut sg.extBut hlt) (by simp) fun g2 he => ?_))
  simp only [Option.isSome_none, Bool.false_eq_true, if_false]
  exact wpAny_pure (hQ g2 fun b o hb q => he b o hb (sg.extBut b o hb (Heap.get?_push_of_some _ q)))
theorem assign_tup_hot {env : Env} {elts : List Expr} {kk : Nat} {pos : Pos} {t x1 : Addr} {items : Array Value} {Q : Unit → Shared → Prop} (hh : A.handled = some (.ref x1)) (hot : HotO x1 s.heap) (ht : IsTup s.heap t items)
    (hn : (assignEach elts env).length = items.size) (hstar : (assignEach elts env).findIdx? (·.1) = none)
    (h : ∀ h', Heap.ExtBut s.heap.objs.size s.heap h' → wpAny (model prog w) A (assignInOrder ((assignEach elts env).map (·.2)) items.toList) Q E { s with heap := h' }) :
    wpAny (model prog w) A (assign (.Tuple elts kk pos) env (.ref t)) Q E s := by
  rw [assign_Tuple]
  refine wpAny_bind (wpAny_standAt ?_)
  unfold unpack
  rw [hn, hstar]
  exact wpAny_bind (wpAny_holding (unpack_hot hh hot ht h))
end
/-! ### a walk, where x1 is handled -/
structure TurnX (P : Program) (w : World) (K : PySem.W.Frag) (x1 : Addr) (tg : Expr) (J : It) (fp : List Addr) (it : Addr) (tn : Nat → Heap → Prop) : Prop where
  mem : it ∈ fp
  obj : ∀ i h, tn i h → ∀ b ∈ fp, ∃ o, h.get? b = some o ∧ ∀ v, o.data ≠ .cell v
  keep : ∀ i h h', tn i h → (∀ b ∈ fp, ∀ o, h.get? b = some o → h'.get? b = some o) → tn i h'
  item : ∀ (X : Cx), X.prog = P → X.w = w → X.K = K → X.A.handled = some (.ref x1) → ∀ (i : Nat) (pins : List (Addr × Obj)) (s : Shared) (σ : L2.St) (H : Hp) (E : Value → Shared → Prop), HotO x1 s.heap → Inv X pins σ H s → (∀ b ∈ fp, FpOk X pins H b) → tn i s.heap → J.go i H →
    wpAny (model P w) X.A (pyNext (.ref it)) (fun r s1 => ∃ u, r = some u ∧
      wpAny (model P w) X.A (letOwnedTupleGo tg (.ref it) u) (fun _ s2 => ∃ x H', Inv X pins σ H' s2 ∧ RelV x u ∧ J.yld i H x H' ∧ tn (i + 1) s2.heap ∧ HotO x1 s2.heap ∧ ∀ b ∈ fp, H' b = none) E s1) E s
  done : ∀ (X : Cx), X.prog = P → X.w = w → X.K = K → X.A.handled = some (.ref x1) → ∀ (i : Nat) (pins : List (Addr × Obj)) (s : Shared) (σ : L2.St) (H : Hp) (E : Value → Shared → Prop), HotO x1 s.heap → Inv X pins σ H s → (∀ b ∈ fp, FpOk X pins H b) → tn i s.heap → J.stop i H →
    wpAny (model P w) X.A (pyNext (.ref it)) (fun r s1 => r = none ∧ Inv X pins σ H s1) E s
  self : ∀ (A : Around) (i : Nat) (s : Shared) (Q : Value → Shared → Prop) (E : Value → Shared → Prop), tn i s.heap → Q (.ref it) s → wpAny (model P w) A (pyIter (.ref it)) Q E s
def ItzL (K : PySem.W.Frag) (a b : Addr) (xs ys : List V) : It :=
  ⟨fun i H => SqL K H a xs ∧ SqL K H b ys ∧ i < min xs.length ys.length, fun i H v H' => ∃ T x y, v = .ref T ∧ H T = none ∧ H' = upd H T (.tup [x, y]) ∧ xs[i]? = some x ∧ ys[i]? = some y, fun i H => SqL K H a xs ∧ SqL K H b ys ∧ i = min xs.length ys.length⟩
structure ZApX (z TI TO i1 i2 a b x1 : Addr) : Prop where
  s : ZipSep2 z TI TO i1 i2 [i1, a, x1] [i2, b, x1]
  n1 : a ≠ i1
  n2 : b ≠ i2
  m1 : x1 ≠ i1
  m2 : x1 ≠ i2
  mz : x1 ≠ z
  mT : x1 ≠ TO
theorem turn_zipX {P : Program} {w : World} {K : PySem.W.Frag} {elts : List Expr} {kk : Nat} {tpos : Pos} {a b z TI TO i1 i2 x1 : Addr} {xs ys : List V} (D : ZApX z TI TO i1 i2 a b x1) :
    TurnX P w K x1 (.Tuple elts kk tpos) (ItzL K a b xs ys) [z, TI, TO, i1, i2] z (fun i h => IsZip h z TI TO .none ∧ IsTupOf2 h TI (.ref i1) (.ref i2) ∧ (∃ a1 a2, IsTupOf2 h TO a1 a2) ∧ h.IsListIter i1 a i ∧ h.IsListIter i2 b i) where
  mem := by simp
  obj := fun i h st c hc => by
    obtain ⟨hz, hTI, ⟨x, y, hTO⟩, h1, h2⟩ := st
    have e' : c = z ∨ c = TI ∨ c = TO ∨ c = i1 ∨ c = i2 := by simpa using hc
    rcases e' with q | q | q | q | q
    · subst q; exact ⟨_, hz, fun v q => nomatch q⟩
    · subst q; exact ⟨_, hTI, fun v q => nomatch q⟩
    · subst q; exact ⟨_, hTO, fun v q => nomatch q⟩
    · subst q; exact (show ItAt true h c a i from h1).obj
    · subst q; exact (show ItAt true h c b i from h2).obj
  keep := fun i h h' st k => by
    obtain ⟨hz, hTI, ⟨x, y, hTO⟩, h1, h2⟩ := st
    exact ⟨k z (by simp) _ hz, k TI (by simp) _ hTI, ⟨x, y, k TO (by simp) _ hTO⟩, h1.at fun o q => k i1 (by simp) o q, h2.at fun o q => k i2 (by simp) o q⟩
  item := by
    intro X hP hw hK hh i pins s σ H E hot I hf st hg
    subst hP hw hK
    obtain ⟨hz, hTI, hTO, h1, h2⟩ := st
    obtain ⟨hqx, hqy, hlt⟩ := hg
    obtain ⟨its, rv, p1, _⟩ := I.list hqx
    obtain ⟨its2, rv2, p2, _⟩ := I.list hqy
    have e1 := rv.length
    have e2 := rv2.length
    have szs : ∀ {c : Addr}, c ∈ [z, TI, TO, i1, i2] → c < s.heap.objs.size := fun {c} hcm => by
      have e' : c = z ∨ c = TI ∨ c = TO ∨ c = i1 ∨ c = i2 := by simpa using hcm
      obtain ⟨_, _, hTO⟩ := hTO
      rcases e' with q | q | q | q | q
      · rw [q]; exact Heap.lt_size hz
      · rw [q]; exact Heap.lt_size hTI
      · rw [q]; exact Heap.lt_size hTO
      · rw [q]; obtain ⟨_, e, _⟩ := h1; exact Heap.lt_size e
      · rw [q]; obtain ⟨_, e, _⟩ := h2; exact Heap.lt_size e
    have hzl : z < s.heap.objs.size := szs (by simp)
    obtain ⟨x0, y0, hTO⟩ := hTO
    refine wpAny_pyNext_zipD2_item D.s (draws_hot (A := X.A.in1) hh i1 a D.n1 D.m1 its.toArray) (draws_hot (A := X.A.in1) hh i2 b D.n2 D.m2 its2.toArray) hz hTI hTO ⟨⟨h1, p1.isList⟩, hot⟩ ⟨⟨h2, p2.isList⟩, hot⟩ (by rw [List.size_toArray]; omega) (by rw [List.size_toArray]; omega)
      fun u u2 h' tk hu hu2 z' TO' j1 j2 hT hsz hk => ?_
    refine ⟨_, rfl, wpAny_letOwnedTupleGo_zip (s := { s with heap := h', toks := tk }) z' fun h'' z'' sb => ?_⟩
    obtain ⟨x, hx, ru⟩ : ∃ x, xs[i]? = some x ∧ RelV x u := by
      have q : i < xs.length := by omega
      obtain ⟨u', hu', r'⟩ := rv.get (i := i) (x := xs[i]) (by simp [q])
      have z : its[i]? = some u := by simpa using hu
      rw [hu'] at z
      cases z
      exact ⟨xs[i], by simp [q], r'⟩
    obtain ⟨y, hy, ru2⟩ : ∃ y, ys[i]? = some y ∧ RelV y u2 := by
      have q : i < ys.length := by omega
      obtain ⟨u', hu', r'⟩ := rv2.get (i := i) (x := ys[i]) (by simp [q])
      have z : its2[i]? = some u2 := by simpa using hu2
      rw [hu'] at z
      cases z
      exact ⟨ys[i], by simp [q], r'⟩
    have hT2 : h''.get? s.heap.objs.size = some { cls := .type "tuple", data := .seq #[u, u2] } := (sb.2 _ (Nat.ne_of_gt hzl)).trans hT
    have new : ObjOk X.prog X.w (upd H s.heap.objs.size (.tup [x, y])) h'' s.heap.objs.size (.tup [x, y]) :=
      ⟨by show 2 ≤ sizeLine; decide, [u, u2], .cons ru (.cons ru2 .nil), ⟨_, hT2, rfl, _, rfl⟩⟩
    have I1 : Inv X pins σ (upd H s.heap.objs.size (.tup [x, y])) { s with heap := h'', toks := tk } :=
      I.turnedNew (ch := [z, TI, TO, i1, i2]) (fun c o hb q => (sb.2 c (fun q' => hb (by simp [q']))).trans (hk c o (fun q' => hb (by simp [q'])) (fun q' => hb (by simp [q'])) (fun q' => hb (by simp [q'])) (fun q' => hb (by simp [q'])) q)) hf (Nat.le_refl _) new
    refine ⟨.ref s.heap.objs.size, _, I1, rfl, ⟨_, x, y, rfl, I.hok.fresh (Nat.le_refl _), rfl, hx, hy⟩, ⟨z'', (sb.2 _ D.s.TIz).trans (hk _ _ D.s.TIz D.s.TITO D.s.TIi1 D.s.TIi2 hTI), ⟨u, u2, (sb.2 _ D.s.TOz).trans TO'⟩, j1.1.1.at fun o q => (sb.2 _ (fun y => D.s.zf1 (by simp [y]))).trans q, j2.1.1.at fun o q => (sb.2 _ (fun y => D.s.zf2 (by simp [y]))).trans q⟩, hot.at fun o q => (sb.2 _ D.mz).trans (hk _ _ D.mz D.mT D.m1 D.m2 q), fun c hcm => ?_⟩
    rw [upd_ne (Nat.ne_of_lt (szs hcm))]
    exact (hf c hcm).1
  done := by
    intro X hP hw hK hh i pins s σ H E hot I hf st hg
    subst hP hw hK
    obtain ⟨hz, hTI, hTO, h1, h2⟩ := st
    obtain ⟨hqx, hqy, he⟩ := hg
    obtain ⟨its, rv, p1, _⟩ := I.list hqx
    obtain ⟨its2, rv2, p2, _⟩ := I.list hqy
    have e1 := rv.length
    have e2 := rv2.length
    obtain ⟨x0, y0, hTO⟩ := hTO
    refine wpAny_pyNext_zipD2_end D.s (draws_hot (A := X.A.in1) hh i1 a D.n1 D.m1 its.toArray) (draws_hot (A := X.A.in1) hh i2 b D.n2 D.m2 its2.toArray) hz hTI hTO ⟨⟨h1, p1.isList⟩, hot⟩ ⟨⟨h2, p2.isList⟩, hot⟩ (by rw [List.size_toArray]; omega) (by rw [List.size_toArray]; omega) (by rw [List.size_toArray, List.size_toArray]; omega) fun h' tk hk => ⟨rfl, ?_⟩
    exact I.turnedL (ch := [z, TI, TO, i1, i2]) (fun c o hb q => hk c o (fun y => hb (by simp [y])) (fun y => hb (by simp [y])) (fun y => hb (by simp [y])) (fun y => hb (by simp [y])) q) hf
  self := fun A i s Q E st h => wpAny_pyIter_zip st.1 h
def PIEX (X : Cx) (x1 : Addr) (pins : List (Addr × Obj)) (σ : L2.St) (tg : Expr) (R : It → Hp → Prop) (itv : Value) (s2 : Shared) : Prop :=
  ∃ (it : Addr) (fp : List Addr) (tn : Nat → Heap → Prop) (J : It) (H' : Hp), itv = .ref it ∧ Inv X pins σ H' s2 ∧ TurnX X.prog X.w X.K x1 tg J fp it tn ∧ tn 0 s2.heap ∧ (∀ b ∈ fp, FpOk X pins H' b) ∧ R J H'
structure PIX (X : Cx) (x1 : Addr) (tg iter : Expr) (wi : TI) : Prop where
  run : ∀ (pins : List (Addr × Obj)) (s : Shared) (σ : L2.St) (H : Hp) (R : It → Hp → Prop), Inv X pins σ H s → wi σ H R →
    wpAny (model X.prog X.w) X.A (eval iter X.env) (fun v s1 => wpAny (model X.prog X.w) X.A (pyIter v) (PIEX X x1 pins σ tg R) X.xe s1) X.xe s
def iZipL (K : PySem.W.Frag) (ta : TA) : TI := fun σ H R => ta σ H fun vs H1 => ∃ a b xs ys, vs = [.ref a, .ref b] ∧ SqL K H1 a xs ∧ SqL K H1 b ys ∧ R (ItzL K a b xs ys) H1
theorem pi_zipX {X : Cx} {e e2 : Expr} {ta : TA} {p pos tpos : Pos} {elts : List Expr} {kk : Nat} {x1 : Addr} {o1 : Obj} (hx : (x1, o1) ∈ X.pn) (hm : X.mg "zip" = none) (ha : PA X [e, e2] ta) (hg : Gl X "zip" := by rfl)
    (hs : starEach [e, e2] X.env = (false, eval e X.env) :: starEach [e2] X.env := by rfl) (hpl : (backTo pos (starEach [e2] X.env)).any (·.1) = false := by rfl) :
    PIX X x1 (.Tuple elts kk tpos) (.Call (.Name "zip" p) [e, e2] [] pos) (iZipL X.K ta) := by
  refine ⟨fun pins s σ H R I h => ?_⟩
  refine Call_ (ld_blt I hg hm PyProof.Rows.boot_zip (PyProof.Rows.callWith_type1 (thn (ha.run pos pins s σ H _ I h) fun us s1 ⟨vs, H1, I1, r1, q1⟩ => ?_) hs hpl))
  obtain ⟨a, b, xs, ys, ex, hqx, hqy, q⟩ := q1
  subst ex
  obtain ⟨u1, u2, rfl, r, r'⟩ := vals2 r1
  cases r
  cases r'
  obtain ⟨its, rv, p1, _⟩ := I1.list hqx
  obtain ⟨its2, rv2, p2, _⟩ := I1.list hqy
  have la := (show SeqAtH true s1.heap a its.toArray from p1.isList).lt
  have lb := (show SeqAtH true s1.heap b its2.toArray from p2.isList).lt
  have lx : x1 < s1.heap.objs.size := Heap.lt_size (I1.pin (x1, o1) (List.mem_append_left _ hx)).1
  refine zip_begins2 (begins_list a its.toArray) (begins_list b its2.toArray) p1.isList p2.isList fun h' hz hTI hTO g1 g2 hsz hk => wpAny_pyIter_zip hz ?_
  have I2 : Inv X pins σ H1 { s1 with heap := h' } := I1.kept (t' := s1.toks) hk
  refine ⟨s1.heap.objs.size + 4, [s1.heap.objs.size + 4, s1.heap.objs.size + 2, s1.heap.objs.size + 3, s1.heap.objs.size, s1.heap.objs.size + 1], _, _, H1, rfl, I2, turn_zipX (a := a) (b := b) (xs := xs) (ys := ys) (TI := s1.heap.objs.size + 2) (TO := s1.heap.objs.size + 3) (i1 := s1.heap.objs.size) (i2 := s1.heap.objs.size + 1) ⟨?_, Nat.ne_of_lt la, Nat.ne_of_lt (Nat.lt_succ_of_lt lb), Nat.ne_of_lt lx, Nat.ne_of_lt (Nat.lt_succ_of_lt lx), Nat.ne_of_lt (Nat.lt_add_right 4 lx), Nat.ne_of_lt (Nat.lt_add_right 3 lx)⟩, ⟨hz, hTI, ⟨_, _, hTO⟩, ⟨_, g1, rfl, rfl⟩, ⟨_, g2, rfl, rfl⟩⟩, fun c hcm => ?_, q⟩
  · refine zip_sep2 (fp1 := [a, x1]) (fp2 := [b, x1]) (fun c hc => ?_) fun c hc => ?_
    · have e' : c = a ∨ c = x1 := by simpa using hc
      rcases e' with z | z <;> (rw [z]; assumption)
    · have e' : c = b ∨ c = x1 := by simpa using hc
      rcases e' with z | z <;> (rw [z]; assumption)
  · have e' : c = s1.heap.objs.size + 4 ∨ c = s1.heap.objs.size + 2 ∨ c = s1.heap.objs.size + 3 ∨ c = s1.heap.objs.size ∨ c = s1.heap.objs.size + 1 := by simpa using hcm
    have hle : s1.heap.objs.size ≤ c := by
      rcases e' with z | z | z | z | z
      · rw [z]; exact Nat.le_add_right _ _
      · rw [z]; exact Nat.le_add_right _ _
      · rw [z]; exact Nat.le_add_right _ _
      · rw [z]; exact Nat.le_refl _
      · rw [z]; exact Nat.le_add_right _ _
    exact I1.fpOk hle (I1.hok.fresh hle)
end DL
set_option maxHeartbeats 2000000
/-! A comprehension in an except suite: [elt for a, b in zip(..) if ..]. -/
namespace DL
open PySem PySem.Spec PyProof.Rows L2 HotX L2H
section
variable {X : Cx}
/-- the target of such a comprehension: names of the block, given a pair -/
theorem pgX {X : Cx} {es : List Expr} {kk n : Nat} {tpos : Pos} {gs : TGs} {x1 : Addr} {pins : List (Addr × Obj)} {s : Shared} {σ : L2.St} {H : Hp} {v : V} {u : Value} {Q : L2.St → Hp → Prop} (hh : X.A.handled = some (.ref x1)) (hot : HotO x1 s.heap) (h : PGs X es gs)
    (hn : (assignEach es X.env).length = n) (hst : (assignEach es X.env).findIdx? (·.1) = none) (I : L2.Inv X pins σ H s) (r : L2.RelV v u) (q : gTup X.K n gs v σ H Q) :
    wpAny (model X.prog X.w) X.A (assign (.Tuple es kk tpos) X.env u) (fun _ s' => ∃ σ' H', L2.Inv X pins σ' H' s' ∧ Q σ' H') X.xe s := by
  obtain ⟨a, xs, e1, hq, hl, hw⟩ := q
  subst e1
  cases r
  obtain ⟨its, rv, hp, hz⟩ := I.tuple hq
  refine assign_tup_hot hh hot hp (by simp [hn, ← hl, rv.length]) hst fun h' hx => ?_
  have J := I.kept (h' := h') (t' := s.toks) fun b o e => hx b o (Nat.ne_of_lt (Heap.lt_size e)) e
  exact h.run pins _ σ H xs _ Q J (by simpa using rv) hw
theorem pe_lcX {elt iter : Expr} {es : List Expr} {kk n : Nat} {tpos : Pos} {ifs : List Expr} {scope : Scope} {own : List (Str × Nat)} {pos : Pos} {wi : TI} {gs : TGs} {tt : TT} {te : TE} {x1 : Addr} {o1 : Obj} (hx1 : (x1, o1) ∈ X.pn) (hh : X.A.handled = some (.ref x1))
    (ho1 : ∃ vs : Array Value, o1.data = .fields vs ∧ vs[2]? = some .none) (hN : X.N.Nodup) (hi : PIX X x1 (.Tuple es kk tpos) iter wi) (ok : BlkOk X.N X.env.scope scope own)
    (hg : ∀ (s : Shared) (H : Hp) (C : Addr) (cl : List (Str × Addr)) (fp : List Addr), PGs (X.blk s H scope (compEnvC scope cl C X.env) fp) es gs) (ht : ∀ (s : Shared) (H : Hp) (C : Addr) (cl : List (Str × Addr)) (fp : List Addr), PTs (X.blk s H scope (compEnvC scope cl C X.env) fp) ifs tt)
    (he : ∀ (s : Shared) (H : Hp) (C : Addr) (cl : List (Str × Addr)) (fp : List Addr), PE (X.blk s H scope (compEnvC scope cl C X.env) fp) elt te)
    (hn : ∀ (C : Addr) (cl : List (Str × Addr)), (assignEach es (compEnvC scope cl C X.env)).length = n := by intro _ _; rfl) (hst : ∀ (C : Addr) (cl : List (Str × Addr)), (assignEach es (compEnvC scope cl C X.env)).findIdx? (·.1) = none := by intro _ _; rfl)
    (hs : ∀ x, foldedSetIterable iter X.env x = pure x := by intro _; rfl) : PE X (.ListComp elt [⟨.Tuple es kk tpos, iter, ifs, 0⟩] scope pos) (tLc wi (gTup X.K n gs) tt te (own.map (·.2))) := by
  refine ⟨fun pins s σ H Q I h => ?_⟩
  rw [eval_ListComp]
  have clo : ∀ y ∈ scope.names, y.2 = .free → ∃ c, X.env.cells.lookup y.1 = some c := fun y hy e => (ok.free y hy e).elim (fun k => I.ok.has _ (.inl k)) (fun k => I.ok.has _ (.inr k))
  refine wpAny_comprehension_free (use := none) rfl hs (closure_ok clo) ok.kind (fun y hy e => by rw [ok.uniq y hy, e]) (thn (hi.run pins s σ H _ I h) fun xv sa hx => thn hx fun itv sb hb2 => ?_)
  obtain ⟨it, fp, tn, J, HA, e, IA, TX, stA, fA, q⟩ := hb2
  subst e
  refine wpAny_newObj_type (newEnv_comp ?_) (by show 0 ≤ sizeLine; decide)
  generalize eD : sb.heap.objs.size = D
  have nD : HA D = none := IA.hok.fresh (Nat.le_of_eq eD)
  obtain ⟨W, ⟨m0, w0⟩, turn⟩ := q D nD
  generalize es3 : ({ sb with heap := sb.heap.push { cls := .type "list", data := .seq ([] : List Value).toArray } } : Shared) = sc
  have IC : L2.Inv X pins σ (upd HA D (.lst [])) sc := by
    rw [← es3]
    refine IA.laid (t' := sb.toks) (fun b o e => Heap.get?_push_of_some _ e) (Nat.le_of_eq eD) ⟨Nat.zero_le _, [], 0, .nil, ?_⟩
    exact eD ▸ Heap.get?_push_size _ rfl
  have hC : sc.heap = sb.heap.push { cls := .type "list", data := .seq ([] : List Value).toArray } := by rw [← es3]
  have below : ∀ b ∈ fp, b < sb.heap.objs.size := fun b hb => by
    obtain ⟨o, e, _⟩ := TX.obj _ _ stA b hb
    exact Heap.lt_size e
  have fC : ∀ b ∈ fp, FpOk X pins (upd HA D (.lst [])) b ∧ b < sc.heap.objs.size := fun b hb => by
    have hlt := below b hb
    refine ⟨⟨?_, (fA b hb).2⟩, by rw [hC, Heap.size_push]; exact Nat.lt_succ_of_lt hlt⟩
    rw [upd_ne (by rw [← eD]; exact Nat.ne_of_lt hlt)]
    exact (fA b hb).1
  have stC : tn 0 sc.heap := TX.keep _ _ _ stA fun b _ o e => by rw [hC]; exact Heap.get?_push_of_some _ e
  have PC := IC.pin (x1, o1) (List.mem_append_left _ hx1)
  have nx : x1 ∉ frs X.stack := fun hm => (List.mem_cons.mp (IC.stkSub _ hm)).elim PC.2.2.1 PC.2.2.2.1
  have nfx : x1 ∉ fp := fun hm => (fC x1 hm).1.2.2.2.2.2 (x1, o1) (List.mem_append_left _ hx1) rfl
  have I4 := block_start IC ok hN fC
  have pg := hg sc (upd HA D (.lst [])) sc.heap.objs.size (cellsFrom (sc.heap.objs.size + 1) scope.names (cloFrom X.env.cells scope.names [])) fp
  have pt := ht sc (upd HA D (.lst [])) sc.heap.objs.size (cellsFrom (sc.heap.objs.size + 1) scope.names (cloFrom X.env.cells scope.names [])) fp
  have pe := he sc (upd HA D (.lst [])) sc.heap.objs.size (cellsFrom (sc.heap.objs.size + 1) scope.names (cloFrom X.env.cells scope.names [])) fp
  have hn' := hn sc.heap.objs.size (cellsFrom (sc.heap.objs.size + 1) scope.names (cloFrom X.env.cells scope.names []))
  have hst' := hst sc.heap.objs.size (cellsFrom (sc.heap.objs.size + 1) scope.names (cloFrom X.env.cells scope.names []))
  show codeAny _ _ (.compStart (.ListComp elt [⟨.Tuple es kk tpos, iter, ifs, 0⟩] scope pos) 0 (.ref it) (.ref D) (compEnvC scope (cellsFrom (sc.heap.objs.size + 1) scope.names (cloFrom X.env.cells scope.names [])) sc.heap.objs.size X.env)) _ { sc with heap := pushCells (sc.heap.push { cls := .type "dict", data := .dict #[] }) scope.names }
  have nfp : ∀ b ∈ fp, (upd HA D (.lst [])) b = none := fun b hb => (fC b hb).1.1
  generalize hce : compEnvC scope (cellsFrom (sc.heap.objs.size + 1) scope.names (cloFrom X.env.cells scope.names [])) sc.heap.objs.size X.env = ce at I4 pg pt pe hn' hst' ⊢
  have cL : ce.locals = sc.heap.objs.size := by subst hce; rfl
  generalize hHC : upd HA D (.lst []) = HC at IC I4 pg pt pe w0 nfp fC PC
  generalize hs4 : ({ sc with heap := pushCells (sc.heap.push { cls := .type "dict", data := .dict #[] }) scope.names } : Shared) = sd at I4 ⊢
  have stD : tn 0 sd.heap := TX.keep _ _ _ stC fun b _ o e => by rw [← hs4]; exact pushCells_keeps _ _ _ _ (Heap.get?_push_of_some _ e)
  have stat : ∀ {σ' : L2.St} {H' : Hp} {s' : Shared}, L2.Inv (X.blk sc HC scope ce fp) [] σ' H' s' → (∀ b ∈ fp, H' b = none) → ∀ b ∈ fp, FpOk (X.blk sc HC scope ce fp) [] H' b := fun {σ' H' s'} I' hn b hb =>
    ⟨hn b hb, (I'.ok.exf b hb).1, I'.ok.exfs b hb, .inl hb, fun x c e => (I'.ok.exf b hb).2 x c e, fun p hp => absurd (show p ∈ ([] : List (Addr × Obj)) ++ [] from hp) (by simp)⟩
  have hot : ∀ {ps : List (Addr × Obj)} {σ' : L2.St} {H' : Hp} {s' : Shared}, L2.Inv (X.blk sc HC scope ce fp) ps σ' H' s' → HotO x1 s'.heap := fun {ps σ' H' s'} I' => by
    obtain ⟨vs, d1, c1⟩ := ho1
    exact ⟨o1, vs, I'.base.keep x1 o1 PC.1 PC.2.1 nx nfx, d1, c1⟩
  have loop : codeAny (model X.prog X.w) X.A (.compLoop (.ListComp elt [⟨.Tuple es kk tpos, iter, ifs, 0⟩] scope pos) 0 (.ref it) (.ref D) ce) (compPost (model X.prog X.w) X.A X.xe none (EP X pins σ Q) (.ref D) sc.heap.objs.size) sd := by
    refine compLoop_any (fun n s' => ∃ i H', L2.Inv (X.blk sc HC scope ce fp) [] (wipe σ (own.map (·.2))) H' s' ∧ tn i s'.heap ∧ (∀ b ∈ fp, H' b = none) ∧ W i n H') ?_ m0 ⟨0, HC, I4, stD, nfp, w0⟩
    rintro m se ⟨i, HE, IE, stE, nE, wE⟩
    rcases turn i m HE wE with ⟨stop, qq⟩ | ⟨go, Nx, hNx, step⟩
    · have td := TX.done (X.blk sc HC scope ce fp) rfl rfl rfl hh i [] se _ HE (fun _ _ => False) (hot IE) IE (stat IE nE) stE stop
      refine thnF td fun r sf ⟨hr, IF⟩ => ?_
      subst hr
      have IG : L2.Inv X pins σ HE sf := IC.call' (ch := fp) IF.os IF.base IF.hok IF.bare fun b hb => ⟨(fC b hb).1.2.2.2.1, (fC b hb).1.2.1, (fC b hb).1.2.2.2.2.1, (fC b hb).1.2.2.2.2.2⟩
      have nC : HE sc.heap.objs.size = none := cL ▸ (show HE ce.locals = none from IF.free)
      obtain ⟨mm, hns, _⟩ := IF.loc
      have hns : sf.heap.Ns ce.locals mm := hns
      rw [cL] at hns
      obtain ⟨f0, f1, f2, f3, f4, f5⟩ := IC.fpOk (Nat.le_refl _) nC
      exact ⟨mm, hns, fun h'' sb' => ⟨.ref D, HE, IG.turned (t' := sf.toks) (fun b o hb e => (sb'.2 b hb).trans e) f0 f1 f3 f4 f5, rfl, qq⟩⟩
    · have ti := TX.item (X.blk sc HC scope ce fp) rfl rfl rfl hh i [] se _ HE (fun _ _ => False) (hot IE) IE (stat IE nE) stE go
      refine thnF ti fun r sf ⟨u, hr, hf⟩ => ?_
      subst hr
      refine thnF hf fun _ sg ⟨x, HG, IG, rG, yG, stG, htG, nG⟩ => ?_
      have IG' := IG.pinned (stat IG nG) (TX.obj _ _ stG)
      refine thnF (pgX (X := X.blk sc HC scope ce fp) hh htG pg hn' hst' IG' rG (step x HG yG)) fun _ sh ⟨σh, Hh, Ih, hwh, qh⟩ => ?_
      refine thnF (pt.run _ sh σh Hh _ Ih qh) fun b si ⟨HI, II, qi⟩ => ?_
      have fin : ∀ {s' : Shared} {H' : Hp}, L2.Inv (X.blk sc HC scope ce fp) ([] ++ pinsAt fp sg.heap) σh H' s' → Nx H' → ∃ m', m' < m ∧ ∃ i H', L2.Inv (X.blk sc HC scope ce fp) [] (wipe σ (own.map (·.2))) H' s' ∧ tn i s'.heap ∧ (∀ b ∈ fp, H' b = none) ∧ W i m' H' := fun {s' H'} I' nx => by
        obtain ⟨m', hm, w'⟩ := hNx H' nx
        have pinned : ∀ b ∈ fp, ∀ o, sg.heap.get? b = some o → s'.heap.get? b = some o ∧ H' b = none := fun b hb o e =>
          have z := I'.pin (b, o) (List.mem_append_right _ (List.mem_append_right _ (mem_pinsAt hb e)))
          ⟨z.1, z.2.1⟩
        refine ⟨m', hm, i + 1, H', (I'.unpinned (pins := [])).weak (by rw [← hwh, wipe_length]) (fun j v e => (wipe_some (hwh ▸ e)).1), TX.keep _ _ _ stG fun b hb o e => (pinned b hb o e).1, fun b hb => ?_, w'⟩
        obtain ⟨o, e, _⟩ := TX.obj _ _ stG b hb
        exact (pinned b hb o e).2
      cases b with
      | false =>
        simp only [Bool.false_eq_true, if_false] at qi ⊢
        exact fin II qi
      | true =>
        simp only [if_true] at qi ⊢
        refine thnF (pe.run _ si σh HI _ II qi) fun z sj ⟨yv, HJ, IJ, rJ, acc, hDJ, hzJ, nx⟩ => ?_
        exact app_ok (X := X.blk sc HC scope ce fp) IJ hDJ hzJ rJ fun s11 I11 => fin I11 nx
  exact codeAny_compStart_list loop (TX.self X.A 0 _ _ _ stD loop)
end
end DL
set_option maxHeartbeats 2000000
/-! try: .. except x as n: .. except y as n: ..; a lambda called within. -/
namespace DL
open PySem PySem.Spec PyProof.Rows L2 L2N
abbrev SuiteT := Addr → Value → Option Addr → TS
/-- behind the suite the name is gone -/
def goneD (i : Nat) (D : Ends) : Ends := { nx := fun σ' H' => D.nx (σ'.set i none) H', rt := D.rt, bk := fun σ' H' => D.bk (σ'.set i none) H', ct := fun σ' H' => D.ct (σ'.set i none) H' }
def wManyAs (K : PySem.W.Frag) (Wout : WX) (D : Ends) (i : Nat) : List (Value × SuiteT) → WX
  | [] => Wout
  | (c, ts) :: r => fun cls d σ H => ∃ b, PySem.W.exmOne K cls c = some b ∧ (b = true → ∀ a, H a = none → ts a cls d (goneD i D) (σ.set i (some (.ref a))) H) ∧ (b = false → wManyAs K Wout D i r cls d σ H)
inductive HdsAs (X : Cx) (n : Str) : List ExceptHandler → List (Value × SuiteT) → Prop
  | nil : HdsAs X n [] []
  | cons {x : Str} {c : Value} {ts : SuiteT} {b₀ : Stmt} {suite : List Stmt} {np pos' : Pos} {hds : List ExceptHandler} {l : List (Value × SuiteT)} (hc : Names X x c)
      (hsu : ∀ (a : Addr) (oe : Obj) (cls : Value) (d : Option Addr) (pn : List (Addr × Obj)), Zn cls d oe → (∃ vs, oe.data = .fields vs) → PSs (X.suite a ((a, oe) :: pn)) (b₀ :: suite) (ts a cls d)) (r : HdsAs X n hds l) :
      HdsAs X n (.ExceptHandler (some (.Name x np)) (some n) (b₀ :: suite) pos' :: hds) ((c, ts) :: l)
section
variable {X : Cx} {n : Str} {i : Nat} {body : List Stmt} {h₀ : ExceptHandler} {hds : List ExceptHandler} {l : List (Value × SuiteT)} {pos : Pos} {tb : WX → TS} {Wout : WX}
theorem ps_try_manyAs (hs : X.stack = X.env :: X.outer) (hf : X.env.frame = some X.env.locals) (hN : X.N.Nodup) (hi : X.N[i]? = some n) (hln : X.env.kindOf n = some .local) (tk : L2N.Takes X Wout)
    (hb : ∀ (W : WX) (pn : List (Addr × Obj)) (xe : Value → Shared → Prop), L2N.Takes (X.tr pn xe) W → PassesOwn (model X.prog X.w) X.A X.env xe → PSs (X.tr pn xe) body (tb W)) (hh : HdsAs X n (h₀ :: hds) l) :
    PS X (.Try body (h₀ :: hds) [] [] pos) (fun D σ H => tb (wManyAs X.K Wout D i l) D σ H) := by
  refine ⟨fun pins s σ H D I h => ?_⟩
  have okX := I.ok
  have fr : X.A.frames = some (X.env :: X.outer) := hs ▸ okX.frames
  have locN : Loc X.env.scope n := .inl hln
  refine wpAny_Try_except (wpAny_mono ((hb (wManyAs X.K Wout D i l) (X.pn ++ pins) (fun e sa => wpAny (model X.prog X.w) X.A (noteFrame e X.env) (fun _ sb => wpAny (model X.prog X.w) X.A (setFlight e none) (fun _ sc => wpAny (model X.prog X.w) X.A (handleBy e X.env (h₀ :: hds)) (SP X pins D) X.xe sc) X.xe sb) X.xe sa)
    (fun u s' xx => ?_) PassesOwn.looking).run [] s σ H D (I.toTry _) h) (fun f s1 hsp => ?_) (fun e s1 he => he))
  · obtain ⟨a, B, sI, pins', σ', H', cls, d, rfl, IT, nb, up, sky, na, os, ag, w⟩ := xx
    have IJ : Inv X pins σ' H' sI := IT.ofTry okX
    have skyX : Sky B (X.env :: X.outer) a (Zn cls d) X.env.locals s'.heap := by rw [← hs]; exact sky
    show wpAny (model X.prog X.w) X.A (noteFrame (.ref a) X.env) _ _ _
    refine L2N.Sky.land L2N.Zn.steady fr hf skyX fun g3 fl3 up3 => ?_
    have I3 : Inv X pins σ' H' { s' with heap := g3 } := IJ.landed nb fl3.1 (up.trans up3) os ag
    obtain ⟨o3, v3, e3, z3, d3⟩ := fl3.there
    have nfr : a ∉ frs (X.env :: X.outer) := fun hm => by
      obtain ⟨_, o', e', hnf⟩ := fl3.2.2.1.mem hm
      rw [e3] at e'
      cases e'
      exact hnf _ d3
    have aL : a ≠ X.env.locals := fun z => nfr (List.mem_filterMap.mpr ⟨X.env, List.mem_cons_self, by rw [hf, z]⟩)
    have aF : a ∉ X.fs := fun hm => by
      obtain ⟨ev, hev, q⟩ := List.mem_filterMap.mp hm
      exact nfr (List.mem_filterMap.mpr ⟨ev, List.mem_cons_of_mem _ hev, q⟩)
    have S3 := I3.suite e3 d3 na aL aF
    suffices go : ∀ {hds' : List ExceptHandler} {l' : List (Value × SuiteT)}, HdsAs X n hds' l' → wManyAs X.K Wout D i l' cls d σ' H' → wpAny (model X.prog X.w) X.A (handleBy (.ref a) X.env hds') (SP X pins D) X.xe { s' with heap := g3 } from go hh w
    intro hds' l' hk
    induction hk with
    | nil =>
      intro w
      refine wpAny_handleBy_nil ?_
      obtain ⟨_, _, _, oe, vs, t1, t2, t3, he, hz, hd, h1, hr⟩ := id fl3
      unfold PySem.passOn
      refine wpAny_bind (wpAny_field he hd h1 ?_)
      rw [if_neg (show ¬ ((Value.ref t1 == Value.none) = true) by simp)]
      have fin : wpAny (model X.prog X.w) X.A (setFlight (.ref a) X.env.frame) (fun _ s4 => wpAny (model X.prog X.w) X.A (throw (.ref a) : Sem Flow) (SP X pins D) X.xe s4) X.xe { s' with heap := g3 } := by
        rw [hf]
        refine HandSPX.setFlight_upZ fl3 fun g4 hh4 up4 => wpAny_throw (tk _ _ ⟨a, B, sI, pins, σ', H', cls, d, rfl, IJ, nb, (up.trans up3).trans up4, .inr (.inr (by rw [hs]; exact hh4)), na, os, ag, w⟩)
      first
        | exact wpAny_bind (wpAny_pure (wpAny_bind fin))
        | exact wpAny_bind fin
    | @cons x c ts b₀ suite np pos' hds2 l2 hc hsu r ih =>
      intro w
      obtain ⟨b, hb1, hyes, hno⟩ := w
      refine wpAny_handleBy_cons (codeAny_handlers_test ?_) (by intro q; cases q)
      have LT : PySem.W.Looks (model X.prog X.w) g3 (typeOf (.ref a)) cls := fun A Q E s k q => wpAny_typeOf_ref (k _ _ e3) (by rw [z3.1]; exact q)
      have LM := PySem.W.exm_one (M := model X.prog X.w) (I3.kIn) LT hb1
      have test : ∀ {Q : Value → Shared → Prop} {E : Value → Shared → Prop}, Q c { s' with heap := g3 } → wpAny (model X.prog X.w) (X.A.mark (some (.ref a))) (eval (.Name x np) X.env) Q E { s' with heap := g3 } := fun {Q E} q => by
        obtain ⟨hg, hdbg, hm | ⟨hm, hv, hnn⟩⟩ := hc
        · exact ld_glob (X := X.suite a ((a, o3) :: (X.pn ++ pins))) S3 hg hm q hdbg
        · exact ld_blt (X := X.suite a ((a, o3) :: (X.pn ++ pins))) S3 hg hm hv q hnn hdbg
      refine test (LM.here ?_)
      cases b with
      | false =>
        show wpAny _ X.A (handleBy (.ref a) X.env hds2) _ _ _
        exact ih (hno rfl)
      | true =>
        refine codeAny_handlers_suite_as (HandSPX.lands_againZ fl3 fun g4 fl4 up4 => ?_)
        have I4 : Inv X pins σ' H' { s' with heap := g4 } := IJ.landed nb fl4.1 ((up.trans up3).trans up4) os ag
        obtain ⟨o4, v4, e4, z4, d4⟩ := fl4.there
        have S4 := I4.suite e4 d4 na aL aF
        refine store_ok (X := X.suite a ((a, o4) :: (X.pn ++ pins))) (v := .ref a) S4 hN hi locN rfl (fun s5 S5 => ?_) (.inr hln)
        refine wpAny_mono ((hsu a o4 cls d (X.pn ++ pins) z4 ⟨_, d4⟩).run [] s5 _ H' _ S5 (hyes rfl a na)) (fun f s6 hsp => ?_) (fun _ _ z => False.elim z)
        have gone : ∀ {τ : L2.St} {G : Hp} {R : Shared → Prop}, Inv (X.suite a ((a, o4) :: (X.pn ++ pins))) [] τ G s6 → (∀ s7, Inv X pins (τ.set i none) G s7 → R s7) → wpAny (model X.prog X.w) X.A (do bindName X.env n .none; unbindBehindTheSuite X.env n pos') (fun _ s7 => R s7) X.xe s6 :=
          fun {τ G R} S6 hq => gone_ok (S6.unsuite okX) hN hi hln hq
        cases f with
        | ret u =>
          obtain ⟨v6, τ, G, S6, r6, q6⟩ := hsp
          exact gone S6 fun s7 J7 => ⟨_, _, _, J7, r6, q6⟩
        | next =>
          obtain ⟨τ, G, S6, q6⟩ := hsp
          exact gone S6 fun s7 J7 => ⟨_, _, J7, q6⟩
        | brk =>
          obtain ⟨τ, G, S6, q6⟩ := hsp
          exact gone S6 fun s7 J7 => ⟨_, _, J7, q6⟩
        | cont =>
          obtain ⟨τ, G, S6, q6⟩ := hsp
          exact gone S6 fun s7 J7 => ⟨_, _, J7, q6⟩
  · cases f with
    | ret u =>
      obtain ⟨v, τ, G, J', r, q⟩ := hsp
      exact ⟨v, τ, G, J'.ofTry okX, r, q⟩
    | next =>
      obtain ⟨τ, G, J', q⟩ := hsp
      exact wpAny_execs_nil ⟨τ, G, J'.ofTry okX, q⟩
    | brk =>
      obtain ⟨τ, G, J', q⟩ := hsp
      exact ⟨τ, G, J'.ofTry okX, q⟩
    | cont =>
      obtain ⟨τ, G, J', q⟩ := hsp
      exact ⟨τ, G, J'.ofTry okX, q⟩
end
/-! ### a lambda's body -/
open LamX
/-- the context of a lambda's body whose exceptions bear no context -/
abbrev lamN (X : Cx) (A : Around) (outer : List Env) (s : Shared) (H : Hp) (E : XK) (scope : Scope) (f c' : Addr) : Cx :=
  (lamCx X A outer s H E scope f c').wish fun e s' => wpAny (model X.prog X.w) (A.deeper (lamEnv X scope s.heap.objs.size f c')) (leaving (lamEnv X scope s.heap.objs.size f c') e) (fun _ s'' => L2N.CX X.prog X.w outer H s E e s'') (fun e' s'' => L2N.CX X.prog X.w outer H s E e' s'') s'
theorem takes_lam {X : Cx} {A : Around} {outer : List Env} {s : Shared} {H : Hp} {E : XK} {scope : Scope} {f c' : Addr} : L2N.Takes (lamN X A outer s H E scope f c') (fun cls d _ H => E cls d H) := L2N.takes_of rfl rfl rfl rfl
section
variable {X : Cx} {pins : List (Addr × Obj)} {σ : L2.St} {H HZ : Hp} {s s1 : Shared}
theorem pe_actN {CXg : CXT} {Eg : XK} {Ng : List Str} {qg : Str} {sg : Scope} {g f c' : Addr} {cdg pm ctv : Value} {params : Arguments} {body : Expr} {scope : Scope} {k i : Nat} {a : Str} {pn : List (Addr × Obj)} {xe : Value → Shared → Prop} {W : WX} {E : L2.St → XK} {tb : XK → TE} {p1 p2 : Pos}
    (I : Inv X pins σ H s) (L : LamS X.env.scope scope) (hf : s.heap.get? f = some (PySem.W.kla_obj "<lambda>" (X.env.qual ++ "<lambda>") params body scope (cloFrom X.env.cells scope.names []) pm c' ctv)) (hfn : H f = none) (hfr : f ∉ frs X.stack)
    (hbind : bindArgs (PySem.W.kla_fn "<lambda>" (X.env.qual ++ "<lambda>") params body scope (cloFrom X.env.cells scope.names []) pm (.ref c') ctv) ⟨[], []⟩ = pure [])
    (tk : L2N.Takes ((cxOf CXg X.prog X.w X.K X.mg X.base Ng qg sg g cdg X.A X.stack s H Eg).tr pn xe) W) (hW : ∀ cls d σ' H', E σ' cls d H' → W cls d σ' H') (hr : Room (k + 1) (X.A.deeper (envOfC qg sg s.heap.objs.size g cdg)))
    (hbody : ∀ (E : XK) (A : Around) (outer : List Env) (s : Shared) (H : Hp), Room k (A.deeper (lamEnv X scope s.heap.objs.size f c')) → PE (lamN X A outer s H E scope f c') body (tb E))
    (hN : Ng[i]? = some a) (hv : Vis sg a) (hd : (a == ("__debug__" : Str)) = false := by decide) (hcd : (a == ("__classdict__" : Str)) = false := by decide) :
    PE ((cxOf CXg X.prog X.w X.K X.mg X.base Ng qg sg g cdg X.A X.stack s H Eg).tr pn xe) (.Call (.Name a p1) [] [] p2)
      (fun σZ HZ Q => σZ[i]? = some (some (.ref f)) ∧ HZ c' = some (CodeO c' (X.env.qual ++ "<lambda>")) ∧ tb (E σZ) σ HZ Q) := by
  refine ⟨fun pz sz τ HZ Q IZ ⟨hs, hc, ht⟩ => ?_⟩
  refine wpAny_Call_Name_kw (thn ((pe_var (pos := p1) (i := i) hN hv hd hcd).run pz sz τ HZ (fun v G => v = .ref f ∧ G = HZ) IZ ⟨.ref f, hs, rfl, rfl⟩) fun u s1 ⟨v, G, I1, r1, ev, eH⟩ => ?_)
  subst ev eH
  obtain rfl : u = Value.ref f := r1
  have of1 := I1.base.keep f _ hf hfn hfr (fun z => nomatch (show f ∈ ([] : List Addr) from z))
  refine PySem.W.callWith_F0 ⟨_, _, _, _, of1⟩ ?_
  obtain ⟨⟨oc, vs, t, hoc, hdc, hvc⟩, _, _⟩ := I1.hok c' _ hc
  have rc : codeAny (model X.prog X.w) (X.A.deeper (envOfC qg sg s.heap.objs.size g cdg)) (.call (.ref f) ⟨[], []⟩) (CR (L2N.CX X.prog X.w) (envOfC qg sg s.heap.objs.size g cdg :: X.stack) X.prog X.w G s1 Q (E τ)) s1 := by
    refine PySem.W.kla_callFunE hr.depth of1 rfl L.co L.gen rfl ⟨c', oc, vs, t, rfl, hoc, hdc, hvc⟩ ?_
    rw [hbind]
    refine wpAny_pure (wpAny_newFunctionEnv (fun y hy => (L.own y hy).2) (fun y hy => absurd hy (by simp)) (fun g1 hns hsb => ⟨I1.nolimit.fresh _ hsb, ?_⟩) L.kind)
    show codeAny _ _ (.expr body (lamEnv X scope s1.heap.objs.size f c')) _ _
    have J := (lam_start2 (E := E τ) (f := f) (c' := c') (tk := s1.toks + ([] : List (Str × Value)).length) I L I1.env0 hr.hd I1.base hns (fun b o e => hsb.extBut b o (Nat.ne_of_lt (Heap.lt_size e)) (Heap.get?_push_of_some _ e))).wish
      fun e s' => wpAny (model X.prog X.w) ((X.A.deeper (envOfC qg sg s.heap.objs.size g cdg)).deeper (lamEnv X scope s1.heap.objs.size f c')) (leaving (lamEnv X scope s1.heap.objs.size f c') e) (fun _ s'' => L2N.CX X.prog X.w (envOfC qg sg s.heap.objs.size g cdg :: X.stack) G s1 (E τ) e s'') (fun e' s'' => L2N.CX X.prog X.w (envOfC qg sg s.heap.objs.size g cdg :: X.stack) G s1 (E τ) e' s'') s'
    refine PySem.W.kla_codeExpr (wpAny_mono ((hbody (E τ) _ _ s1 G (hr.deeper _)).run [] _ _ G Q J ht) (fun v s' hq => ?_) fun e s' hq => hq)
    obtain ⟨x, G', J', rv, q⟩ := hq
    exact ⟨x, G', J'.os, J'.bare, J'.base, J'.hok, rv, q⟩
  refine wpAny_call (codeAny_mono rc fun r s' hq => ?_)
  cases r with
  | error e => exact tk e s' (L2N.XE.of_call I1 (fun cls d H' h => hW cls d τ H' h) hq)
  | ok fl =>
    cases fl with
    | ret u => exact I1.after hq
    | next => exact False.elim hq
    | brk => exact False.elim hq
    | cont => exact False.elim hq
end
end DL
set_option maxHeartbeats 4000000
/-! isinstance of the handled exception, with a dict or without; the defs that tell of exceptions. -/
namespace PySem.W
open PySem PySem.Spec PySem.Calls PyProof.Rows
section
variable {prog : Program} {w : World} {A : Around} {E : Value → Shared → Prop} {s : Shared} {K : Frag} {x D : Addr} {ox : Obj}
theorem findObj_dataG {C : Addr} {od : Option Obj} {name : Str} {a g : Value} (hc : (clsIn K C).isSome = true) (ha : findIn K (.ref C) name = some (some a)) (hg : specialIn K a "__get__" = some (some g)) (ht : takesIn K a = some true) : findObj K C od name = some (.bind g a) := by
  obtain ⟨cd, hc⟩ := Option.isSome_iff_exists.mp hc
  unfold findObj
  rw [hc, Option.bind_some, ha, Option.bind_some]
  simp [hg, ht]
theorem kin_classG {od : Option Obj} {Q : Option Value → Shared → Prop} (qga : findIn K (.ref D) "__getattribute__" = some (some (.builtin "BaseException.__getattribute__"))) (qgt : findIn K (.ref D) "__getattr__" = some none) (qsub : subIn K (.ref D) (.type "BaseException") = some true)
    (qdct : hasDictIn K D = true) (ha : findIn K (.ref D) "__class__" = some (some (.builtin "object.__class__")))
    (hn : specialIn K (.builtin "object.__class__") "__get__" = some (some (.builtin "getset_descriptor.__get__"))) (htk : takesIn K (.builtin "object.__class__") = some true) (hm : mroIn K D (.type "object") = some true)
    (X : K.In s.heap) (I : InstAt s.heap x ox D od) (h : Q (some (.ref D)) { s with toks := s.toks + 1 }) : wpAny (model prog w) A (getAttr? (.ref x) "__class__") Q E s := by
  have hf : findObj K D od "__class__" = some (.bind (.builtin "getset_descriptor.__get__") (.builtin "object.__class__")) := findObj_dataG (by obtain ⟨cd, hc, _⟩ := any_some qdct; rw [hc]; rfl) ha hn htk
  obtain ⟨hp, g, d, t, os⟩ := s
  have M0 := I.type (M := model prog w)
  have M1 := looks_findIn (M := model prog w) X qga
  have M2 := looks_findIn (M := model prog w) X qgt
  have M3 := looks_find (M := model prog w) X I hf
  have sub : Looks (model prog w) hp (isInstance (.ref x) (.type "BaseException")) true := M0.andThen (looks_subIn X qsub)
  have y0 : (false && onTheHeap (Value.builtin "BaseException.__getattribute__")) = false := rfl
  have y2 : (Value.builtin "BaseException.__getattribute__" == Value.builtin "object.__getattribute__") = false := by decide +kernel
  have y1 : (onTheHeap (Value.ref D) && Value.builtin "BaseException.__getattribute__" == Value.builtin "object.__getattribute__") = false := by rw [y2]; rfl
  unfold getAttr? getAttrBy? getAttrBy
  refine wpAny_bind (wpAny_mkText (wpAny_bind (wpAny_attempt (wpAny_holding (wpAny_bind (M0.at (wpAny_bind (M1.at ?_))))))))
  show wpAny _ _ (if (onTheHeap (Value.ref D) && Value.builtin "BaseException.__getattribute__" == Value.builtin "object.__getattribute__") = true then _ else _) _ _ _
  rw [y1, if_neg Bool.false_ne_true]
  unfold getAttrByItsOwn hookBefore
  refine wpAny_bind ?_
  rw [if_pos (show onTheHeap (Value.ref D) = true from rfl)]
  refine M2.at ?_
  refine wpAny_bind (wpAny_attempt (wpAny_holding ?_))
  unfold callGetattribute
  rw [y0, if_neg Bool.false_ne_true]
  unfold boundAndCalled
  rw [PySem.F.excAttr_ValueError.ga.bind (.ref x)]
  refine wpAny_bind (wpAny_pure ?_)
  show wpAny _ _ (call (.builtin "BaseException.__getattribute__") [.ref x, .str "__class__" t]) _ _ _
  refine wpAny_call (codeAny_call_builtin PySem.F.excAttr_ValueError.ga.plain PySem.F.entry_bexc_ga ?_)
  refine @check_slot (model prog w) _ _ ⟨hp, g, d, t + 1, os⟩ "BaseException.__getattribute__" "BaseException" "__getattribute__" (.ref x) [.str "__class__" t] [] _ (by decide +kernel) (by decide +kernel) sub (PySem.F.args_bexc_ga (.ref x) (.str "__class__" t)) ?_
  unfold Builtin.«object.__getattribute__»
  refine wpAny_bind (wpAny_of_eq (a := ((Value.ref x : Value), [Value.str "__class__" t])) (by first | rfl | (simp only [slotArgs]; rfl)) ?_)
  refine wpAny_bind (wpAny_pure (wpAny_bind (M0.at (wpAny_bind (M3.at ?_)))))
  show wpAny _ _ (holding [Value.builtin "object.__class__"] (call (.builtin "getset_descriptor.__get__") [.builtin "object.__class__", .ref x, .ref D]) >>= ret) _ _ _
  refine wpAny_bind (wpAny_holding (wpAny_call (class_get (s := ⟨hp, g, d, t + 1, os⟩) (ox := ox) (od := od) X I hm ?_)))
  refine wpAny_pure ?_
  show wpAny _ _ (handedOut (.ref D)) _ _ _
  rw [handedOut_of (v := .ref D) rfl]
  first
    | exact wpAny_pure (wpAny_pure h)
    | exact wpAny_pure h
    | exact wpAny_pure (wpAny_bind (wpAny_pure (wpAny_pure h)))
theorem kitx_excG {od : Option Obj} (qga : findIn K (.ref D) "__getattribute__" = some (some (.builtin "BaseException.__getattribute__"))) (qgt : findIn K (.ref D) "__getattr__" = some none) (qsub : subIn K (.ref D) (.type "BaseException") = some true) (qdct : hasDictIn K D = true) (ha : findIn K (.ref D) "__class__" = some (some (.builtin "object.__class__")))
    (hn : specialIn K (.builtin "object.__class__") "__get__" = some (some (.builtin "getset_descriptor.__get__"))) (htk : takesIn K (.builtin "object.__class__") = some true) (hm : mroIn K D (.type "object") = some true) :
    KitX K (.ref x) (.ref D) (fun h => InstAt h x ox D od) where
  ty := fun _ _ _ I => I.type
  it := fun _ _ X _ => by
    obtain ⟨cdD, hcD, _⟩ := any_some qdct
    unfold clsIn at hcD
    split at hcD
    · rename_i c' d' cd' sl' ho
      intro A' Q' E' s' k q
      unfold isType loadHead
      exact wpAny_bind (wpAny_loadPart (k _ _ (X _ _ ho)) (wpAny_pure q))
    · cases hcD
  ne := fun h tp dd its n sl X htp => by
    obtain ⟨cdD, hcD, _⟩ := any_some qdct
    refine Bool.eq_false_iff.mpr fun q => ?_
    have e : D = tp := Value.ref.inj (beq_iff_eq.mp q)
    subst e
    unfold clsIn at hcD
    split at hcD
    · rename_i c' d' cd' sl' ho
      have z := (X _ _ ho).symm.trans htp
      cases z
    · cases hcD
  ca := fun X I k => kin_classG qga qgt qsub qdct ha hn htk hm X I k
end
end PySem.W
namespace DL
open PySem PySem.Spec PyProof.Rows L2 L2N
/-- the exception's object stands: its class D, its dict tracked -/
theorem inst_exc {X : Cx} {pins : List (Addr × Obj)} {σ : L2.St} {H : Hp} {s : Shared} {a D : Addr} {oe : Obj} {d : Option Addr} (I : L2.Inv X pins σ H s) (hx : (a, oe) ∈ X.pn) (hz : Zn (.ref D) d oe) (hf : ∃ vs, oe.data = .fields vs) (hd : ∀ dd, d = some dd → ∃ fs, H dd = some (.xd fs)) :
    ∃ od, PySem.W.InstAt s.heap a oe D od := by
  obtain ⟨ha, _⟩ := I.pin (a, oe) (List.mem_append_left _ hx)
  obtain ⟨vs, hv⟩ := hf
  have nc : PySem.W.notCls oe = true := by unfold PySem.W.notCls; rw [hv] <;> rfl
  cases d with
  | none => exact ⟨none, ha, hz.1, nc, by rw [hz.2.1]; trivial⟩
  | some dd =>
    obtain ⟨fs, e⟩ := hd dd rfl
    have hx : ObjOk X.prog X.w H s.heap dd (.xd fs) := I.hok dd _ e
    obtain ⟨mA, hns, hr⟩ := hx
    obtain ⟨od, ho, hl⟩ := lookIn_ns hns
    exact ⟨some od, ha, hz.1, nc, by rw [hz.2.1]; exact ho⟩
def rIsX (K : PySem.W.Frag) (D a : Addr) (d : Option Addr) : List V → Hp → VK → Prop := fun xs H Q => ∃ (c : V) (cv : Value) (b : Bool), xs = [.ref a, c] ∧ (∀ u, L2.RelV c u → u = cv) ∧ (∀ dd, d = some dd → ∃ fs, H dd = some (.xd fs)) ∧ PySem.W.kitOne K (.ref D) cv = some b ∧ Q (.bl b) H
theorem call_isX {X : Cx} {a D : Addr} {oe : Obj} {d : Option Addr} (C : ExcC X.K D) (hx : (a, oe) ∈ X.pn) (hz : Zn (.ref D) d oe) (hf : ∃ vs, oe.data = .fields vs) : CallR X (.builtin "isinstance") (rIsX X.K D a d) := by
  intro pins s σ H xs us Q I r h
  obtain ⟨c, cv, b, rfl, hcv, hd, e, q⟩ := h
  obtain ⟨u1, u2, rfl, rx, rt⟩ := vals2 r
  cases rx
  have ec := hcv _ rt
  subst ec
  obtain ⟨od, J⟩ := inst_exc I hx hz hf hd
  exact PySem.W.kia_one (PySem.W.kitx_excG C.hg C.hk C.hs C.hd C.ha C.hn C.ht C.hm) I.kIn J e (fun z => nomatch z) fun tk => ⟨.bl b, H, I.kept (t' := tk) fun _ _ z => z, rfl, q⟩
end DL
set_option maxHeartbeats 2000000
/-! The def that tells an exception's kind, called in a suite; then try: over a lambda. -/
namespace DL
open PySem PySem.Spec PyProof.Rows L2 L2N L2H LamX
def isXF (a0 : Addr) (b : Bool) : D → M D
  | .obj a => if a = a0 then ret (.bl b) else bad
  | _ => bad
def isXE (a0 : Addr) (b : Bool) (m : M D) : M D := bnd m (isXF a0 b)
theorem isXF_self (a0 : Addr) (b : Bool) : isXF a0 b (.obj a0) = ret (.bl b) := if_pos rfl
section
variable {X : Cx} {T : Tab} {W : L2.WX} {e c : Expr} {pos p : Pos} {a0 D : Addr} {oe : Obj}
theorem de_isX {m : M DL.D} {cv : V} {cu : Value} {b : Bool} (C : ExcC X.K D) (hx : (a0, oe) ∈ X.pn) (hz : Zn (.ref D) none oe) (hf : ∃ vs, oe.data = .fields vs) (hm : X.mg "isinstance" = none) (he : DE X T W e m) (ht : PE X c (tC cv)) (hc : ∀ u, RelV cv u → u = cu) (hk : PySem.W.kitOne X.K (.ref D) cu = some b)
    (hg : Gl X "isinstance" := by rfl) (hs : starEach [e, c] X.env = (false, eval e X.env) :: starEach [c] X.env := by rfl) (hs2 : starEach [c] X.env = (false, eval c X.env) :: starEach [] X.env := by rfl) (hpl : (backTo pos (starEach [c] X.env)).any (·.1) = false := by rfl) :
    DE X T W (.Call (.Name "isinstance" p) [e, c] [] pos) (isXE a0 b m) :=
  PE.imp (pe_callB (call_isX C hx hz hf) hg hm PyProof.Rows.boot_isinstance (pa_cons he (pa_cons ht pa_nil hs2) hs) (by decide) (by decide) hs hpl) fun σ H Q ⟨Z, H0, B, F0, F, env, s, q⟩ => ⟨Z, H0, B, F0, F, env, s, q.bnd.imp fun F1 H1 d f1 s1 p1 x rx => by
    cases rx with
    | obj a =>
      simp only [isXF] at p1
      by_cases ea : a = a0
      · rw [if_pos ea] at p1
        subst ea
        exact ⟨cv, cu, b, rfl, hc, fun dd z => (by cases z), hk, p1.2 F1 H1 (Same.refl _) s1 _ (.bl b)⟩
      · rw [if_neg ea] at p1
        cases p1.1
    | _ => cases p1.1⟩
def zipLF : List DL.D → M (List DL.D)
  | [.lst xs, .lst ys] => ret (zipD xs ys)
  | _ => bad
/-- a list comprehension over zip of two lists, in a suite -/
theorem oe_lcX {e2 elt : Expr} {es : List Expr} {kk n : Nat} {zpos zp tpos : Pos} {ifs : List Expr} {scope : Scope} {own : List (Str × Nat)} {m : M (List DL.D)} {t : MTs} {tt : M Bool} {me : M DL.D} {x1 : Addr} {o1 : Obj} (hx1 : (x1, o1) ∈ X.pn) (hh : X.A.handled = some (.ref x1))
    (ho1 : ∃ vs : Array Value, o1.data = .fields vs ∧ vs[2]? = some .none) (hN : X.N.Nodup) (hm : X.mg "zip" = none) (ha : DA X T W [e, e2] m) (ok : BlkOk X.N X.env.scope scope own)
    (hg : ∀ (s : Shared) (H : Hp) (C : Addr) (cl : List (Str × Addr)) (fp : List Addr), DGs (X.blk s H scope (compEnvC scope cl C X.env) fp) T (own.map (·.2)) es t) (ht : ∀ (s : Shared) (H : Hp) (C : Addr) (cl : List (Str × Addr)) (fp : List Addr), PTs (X.blk s H scope (compEnvC scope cl C X.env) fp) ifs (LiftT X.K X.mg T WF tt))
    (he : ∀ (s : Shared) (H : Hp) (C : Addr) (cl : List (Str × Addr)) (fp : List Addr), DE (X.blk s H scope (compEnvC scope cl C X.env) fp) T WF elt me)
    (hn : ∀ (C : Addr) (cl : List (Str × Addr)), (assignEach es (compEnvC scope cl C X.env)).length = n := by intro _ _; rfl) (hst : ∀ (C : Addr) (cl : List (Str × Addr)), (assignEach es (compEnvC scope cl C X.env)).findIdx? (·.1) = none := by intro _ _; rfl)
    (hgz : Gl X "zip" := by rfl) (hs : starEach [e, e2] X.env = (false, eval e X.env) :: starEach [e2] X.env := by rfl) (hpl : (backTo zpos (starEach [e2] X.env)).any (·.1) = false := by rfl) (hfs : ∀ x, foldedSetIterable (.Call (.Name "zip" zp) [e, e2] [] zpos) X.env x = pure x := by intro _; rfl) :
    OE X T W (.ListComp elt [⟨.Tuple es kk tpos, .Call (.Name "zip" zp) [e, e2] [] zpos, ifs, 0⟩] scope pos) (lcO (own.map (·.2)) (bnd m zipLF) (tupN n t) tt me) :=
  PE.imp (pe_lcX (gs := LiftGs X.K T (own.map (·.2)) t) (te := LiftE X.K X.mg T WF me) hx1 hh ho1 hN (pi_zipX hx1 hm ha hgz hs hpl) ok hg ht he hn hst hfs) fun σ H Q ⟨Z, H0, B, F0, F, env, s, p⟩ => by
    have pb := Post.bnd (m := m) (k := fun xs => bnd (zipLF xs) (lcF (own.map (·.2)) (tupN n t) tt me)) (env := env) (by
      have e : lcO (own.map (·.2)) (bnd m zipLF) (tupN n t) tt me env = bnd m (fun xs => bnd (zipLF xs) (lcF (own.map (·.2)) (tupN n t) tt me)) env := by
        unfold lcO bnd
        generalize m env = o
        obtain ⟨v, e1, g⟩ := o
        cases v with
        | error x => rfl
        | ok x =>
          generalize hz : zipLF x e1 = oz
          obtain ⟨v2, e2, g2⟩ := oz
          cases v2 with
          | error x => simp [hz]
          | ok y =>
            simp only [hz]
            generalize lcF (own.map (·.2)) (tupN n t) tt me y e2 = ol
            obtain ⟨v3, e3, g3⟩ := ol
            simp [Bool.and_assoc]
      rw [e] at p
      exact p)
    refine ⟨Z, H0, B, F0, F, env, s, pb.imp fun F1 H1 ds f1 s1 p1 xs rx => ?_⟩
    unfold zipLF at p1
    split at p1
    · rename_i as bs
      obtain ⟨x, y, rfl, r, r2⟩ := rep2 rx
      cases r with
      | @lst q1 vs1 as g1 ra =>
        cases r2 with
        | @lst q2 vs2 bs g2 rb =>
          have p2 := (Post.bnd (m := ret (zipD as bs)) p1).2 F1 H1 (Same.refl _) s1
          refine ⟨q1, q2, vs1, vs2, rfl, sameL s1.sub g1, sameL s1.sub g2, ?_⟩
          have key := lc_post (J := ItzL X.K q1 q2 vs1 vs2) (t := tupN n t) s1 p2 ⟨fun G => SqL X.K G q1 vs1 ∧ SqL X.K G q2 vs2, fun i H v H' => ∃ T x y, v = .ref T ∧ H T = none ∧ H' = upd H T (.tup [x, y]) ∧ vs1[i]? = some x ∧ vs2[i]? = some y, ?_, fun G f _ => ⟨sameL f g1, sameL f g2⟩, ?_⟩
          · intro D hD
            obtain ⟨Wt, w0, turn⟩ := key D hD
            refine ⟨Wt, w0, fun i mm H hw => (turn i mm H hw).imp id fun ⟨go, Nx, hNx, st⟩ => ⟨go, Nx, hNx, fun x H' y => ?_⟩⟩
            obtain ⟨Za, Ha, Ba, Fa, Fb, ea, da, eb, sa, rda, eqa, ka⟩ := st x H' y
            cases rda with
            | @tup qq vv dd h1 h2 =>
              unfold tupN at eqa
              simp only at eqa
              split at eqa
              · rename_i hl
                exact ⟨qq, vv, rfl, sameT sa.sub h1, by rw [RepAll.length h2]; exact hl, Za, Ha, Ba, Fa, Fb, ea, dd, eb, sa, h2, eqa, ka⟩
              · cases eqa
            | _ => cases eqa
          · rw [zipD_len, ← RepAll.length ra, ← RepAll.length rb]
            exact ⟨fun i G hi q => ⟨q.1, q.2, hi⟩, fun G q => ⟨q.1, q.2, rfl⟩, fun i G x G' hi q y => y⟩
          · intro i G v G' hi y T Z H0 B F0 F2 env2 σ2 f2 s2
            obtain ⟨t, vx, vy, rfl, ht, rfl, hx, hy⟩ := y
            obtain ⟨dx, ex, rdx⟩ := RepAll.getV ra hx
            obtain ⟨dy, ey, rdy⟩ := RepAll.getV rb hy
            obtain ⟨s3, f3⟩ := s2.laidF ht (o := .tup [vx, vy]) trivial
            exact ⟨_, _, f3, s3, zipD_get ex ey, .tup (SqT.of upd_same) (.cons (rdx.mono (f2.trans f3)) (.cons (rdy.mono (f2.trans f3)) .nil))⟩
    · cases p1.1
end
end DL
set_option maxHeartbeats 2000000
/-! The kind teller's contract; try over a lambda. -/
namespace DL
open PySem PySem.Spec PyProof.Rows L2 L2N L2H LamX
/-- what a call that is lent nothing keeps -/
structure KeepR (T : Tab) (H H' : Hp) : Prop where
  keep : ∀ b o, H b = some o → (T = [] ∨ ∀ ps, o ≠ .tbl ps) → H' b = some o
  tabs : LamX.Tabs T H'
  live : ∀ b, L0 T H b → L0 T H' b
theorem SR.kept {K : PySem.W.Frag} {T : Tab} {Z H0 : Hp} {B : List Addr} {F0 F : Hp} {env : Ev} {σ : L2.St} {H H' : Hp} (s : SR K T Z H0 B F0 F env σ H) (k : KeepR T H H') : SR K T Z H0 B F0 F env σ H' := by
  have kl : ∀ b vs, H b = some (.lst vs) → H' b = some (.lst vs) := fun b vs e => k.keep b _ e (.inr fun ps z => by cases z)
  refine ⟨fun b o e => ?_, s.pure, s.sub0, s.new, fun b o e hb ht => k.keep b o (s.keep b o e hb ht) ht, k.tabs, s.bor, fun b l => k.live b (s.live b l), s.len, fun b o e => ?_, s.zf, fun i v e => ?_, s.apart⟩
  · refine k.keep b o (s.sub b o e) (.inr fun ps z => ?_)
    subst z
    exact (s.pure b _ e).elim
  · obtain ⟨_, vs, q⟩ := s.zf b (by rw [e]; simp)
    rw [e] at q
    cases q
    exact kl b vs (s.prot b _ e)
  · obtain ⟨x, ex, r⟩ := s.slots i v e
    exact ⟨x, ex, r.mono (Same.refl F) fun a vs h1 h2 _ => ⟨kl a vs h1, h2⟩⟩
theorem KeepR.of_ext {T : Tab} {H H' : Hp} (hT : T ≠ []) (e : ExtN H H') (t : LamX.Tabs T H') : KeepR T H H' :=
  ⟨fun b o h c => e b o h (c.resolve_left hT), t, fun b ⟨o, h, c⟩ => ⟨o, e b o h (c.resolve_left hT), c⟩⟩
theorem KeepR.refl {T : Tab} {H : Hp} (t : LamX.Tabs T H) : KeepR T H H := ⟨fun _ _ h _ => h, t, fun _ h => h⟩
theorem KeepR.trans {T : Tab} {H H1 H2 : Hp} (a : KeepR T H H1) (b : KeepR T H1 H2) : KeepR T H H2 := ⟨fun x o h c => b.keep x o (a.keep x o h c) c, b.tabs, fun x h => b.live x (a.live x h)⟩
theorem KeepR.upd {T : Tab} {H : Hp} {q : Addr} (t : LamX.Tabs T H) (h : H q = none) (o : HO) : KeepR T H (upd H q o) :=
  ⟨fun b u e _ => by rw [upd_ne (ne_of_none e h)]; exact e, tabs_keep t fun b u e _ => by rw [upd_ne (ne_of_none e h)]; exact e, fun b ⟨u, e, c⟩ => ⟨u, by rw [upd_ne (ne_of_none e h)]; exact e, c⟩⟩
theorem ArgsR.lsts {K : PySem.W.Frag} {F H : Hp} : ∀ {args : List SV} {B : List Addr} {vs : List V}, ArgsR K F H B vs args → ∀ b ∈ B, ∃ vs, H b = some (.lst vs)
  | [], _, _, h, b, hb => by cases h; cases hb
  | a :: as, _, _, h, b, hb => by
    cases h with
    | d h1 h2 => exact ArgsR.lsts h2 b hb
    | own h1 h2 h3 h4 =>
      cases List.mem_singleton.mp hb
      exact ⟨_, h1⟩
/-- a table list may grow: what keeps all keeps the tables -/
theorem FnD.tabs {K : PySem.W.Frag} {mg : Str → Option Value} {P : Program} {w : World} {base : Heap} {T : Tab} {k : Nat} {f : Addr} {fd : FuncData} {ps : List Str} {fn : Fn} (h : FnD P w K mg base [] k f fd ps fn) : FnD P w K mg base T k f fd ps fn := by
  refine FnOk.imp h fun vs H Q E ⟨B, F, args, h1, h2, h3, h4, h5, h6, h7⟩ => ⟨B, F, args, h1, h2, (fun p hp => by cases hp), h4, h5, h6, fun F' H' e => ?_⟩
  have bl := h4.lsts
  have kp : ∀ b o, H b = some o → (∀ vs, o ≠ .lst vs) → H' b = some o := fun b o eb n => e.keep b o eb (fun hb => by
    obtain ⟨vs, q⟩ := bl b hb
    rw [eb] at q
    cases q
    exact n vs rfl) (.inl rfl)
  have z := h7 F' H' ⟨e.ext, e.sub, e.pure, fun b f l => e.new b f ?_, fun b o eb hb _ => e.keep b o eb hb (.inl rfl), tabs_keep h3 kp, fun b l => ?_, e.lent⟩
  · cases hv : (fn args).val with
    | ok v =>
      rw [hv] at z
      refine fun x r hz => z x ?_ hz
      cases v with
      | d d => exact r
      | own t xs =>
        obtain ⟨a, us, ea, q1, q2, q3, q4, q5⟩ := r
        refine ⟨a, us, ea, q1, q2, q3, q4, ?_⟩
        cases t with
        | zero =>
          rintro ⟨o, eo, _⟩
          exact (show ¬ L0 [] H a from q5) ⟨o, eo, .inl rfl⟩
        | succ k => exact q5
    | error x =>
      rw [hv] at z
      exact z
  · obtain ⟨o, eo, _⟩ := l
    exact ⟨o, eo, .inl rfl⟩
  · obtain ⟨o, eo, c⟩ := l
    by_cases hb : b ∈ B
    · obtain ⟨_, ws, ew, _⟩ := e.lent b hb
      exact L0.lst ew
    · exact ⟨o, e.keep b o eo hb (.inl rfl), c⟩
section
variable {P : Program} {w : World} {K : PySem.W.Frag} {mg : Str → Option Value} {base : Heap}
/-- a def of the text run in a suite, told of the very exception -/
theorem run_ofP {CX : CXT} {k : Nat} {f : Addr} {name qual : Str} {params : Arguments} {body : List Stmt} {scope : Scope} {dV kV doc pm cdv ct oc : Value} {an od : Option Addr} {osl : Array (Option Value)} {N ps : List Str}
    (lk : K.lookup f = some ⟨oc, od, .func (PySem.W.fnOf name qual params body scope dV kV doc pm an cdv ct), osl⟩) (hcd : PySem.W.codeIn K cdv qual = true) (S : FnScope N ps scope) {A : Around} {outer : List Env} {s : Shared} {H : Hp} {args : Args} {us : List Value} {vs : List V} {Q : VK} {E : XK} {p : Addr × Obj}
    (hr : RoomH (k + 1) A) (hpin : PinOk outer H s p) (e0 : Env0 P w K mg base A outer s H) (hb : BindsTo s (PySem.W.fnOf name qual params body scope dV kV doc pm an cdv ct) args (ps.zip us)) (r : Vals vs us) (hl : vs.length = ps.length)
    (hbody : RoomH k (A.deeper (envOfC qual scope s.heap.objs.size f cdv)) → ∃ t, PSs (cxH CX P w K mg base N qual scope f cdv A outer s H E p) body t ∧ t { nx := fun _ H' => Q .non H', rt := Q } (L2.start N vs) H) :
    codeAny (model P w) A (.call (.ref f) args) (CR CX outer P w H s Q E) s := by
  have KX : K.In s.heap := e0.mod.kin.keeps fun b o e => (e0.bs b o e).1
  have lim : s.heap.NoLimit := e0.mod.nolimit.keeps fun b o e => (e0.bs b o e).1
  refine codeAny_call_function hr.depth (KX _ _ lk) rfl S.co S.gen rfl (PySem.W.codeRec_of KX hcd) (hb _ _ _ _ (wpAny_newFunctionEnv_cells S.kind (fun y hy => ?_) fun env he sa x => ?_))
  · obtain ⟨n, v⟩ := y
    exact (S.par n (List.of_mem_zip hy).1).imp id fun q => ⟨q, PySem.W.cellsFrom_some _ _ _ (.inl q)⟩
  subst he
  refine ⟨lim.keeps x.toInCall.keep, codeAny_func ?_⟩
  obtain ⟨t, ht, hq⟩ := hbody (hr.deeper _)
  have I : L2.Inv (cxH CX P w K mg base N qual scope f cdv A outer s H E p) [] (L2.start N vs) H sa := inv_startH S hpin e0 hl r x
  refine wpAny_mono (ht.run [] sa (L2.start N vs) H _ I hq) (fun fl s' hs => ?_) fun e s' hs => hs
  cases fl with
  | ret u =>
    obtain ⟨v, τ, G, J, rv, q⟩ := hs
    exact ⟨v, G, J.os, J.bare, J.base, J.hok, rv, q⟩
  | next =>
    obtain ⟨τ, G, J, q⟩ := hs
    exact ⟨V.non, G, J.os, J.bare, J.base, J.hok, rfl, q⟩
  | brk =>
    obtain ⟨_, _, _, q⟩ := hs
    exact False.elim q
  | cont =>
    obtain ⟨_, _, _, q⟩ := hs
    exact False.elim q
/-- the teller's contract: for exceptions of the class C it tells txt -/
def KinOk (P : Program) (w : World) (K : PySem.W.Frag) (mg : Str → Option Value) (base : Heap) (T : Tab) (k : Nat) (f : Addr) (fd : FuncData) (ps : List Str) (C : Addr) (txt : Str) : Prop :=
  ∀ (A : Around) (outer : List Env) (s : Shared) (H : Hp) (args : Args) (p : Addr × Obj) (Q : VK) (E : XK), RoomH k A → Hot1 A p → PinOk outer H s p → Env0 P w K mg base A outer s H → BindsTo s fd args (ps.zip [.ref p.1]) → Zn (.ref C) none p.2 → LamX.Tabs T H →
    (∀ H', KeepR T H H' → Q (.str txt) H') → codeAny (model P w) A (.call (.ref f) args) (CR (L2N.CX P w) outer P w H s Q E) s
/-- by its body, as data: m a0 tells of the exception at a0 -/
theorem kin_of {T : Tab} {k : Nat} {f C : Addr} {name qual : Str} {params : Arguments} {body : List Stmt} {scope : Scope} {dV kV doc pm cdv ct oc : Value} {an od : Option Addr} {osl : Array (Option Value)} {N : List Str} {x txt : Str} {m : Addr → MS}
    (lk : K.lookup f = some ⟨oc, od, .func (PySem.W.fnOf name qual params body scope dV kV doc pm an cdv ct), osl⟩) (hcd : PySem.W.codeIn K cdv qual = true) (S : FnScope N [x] scope)
    (hm : ∀ a0, runDef N.length (m a0) [.d (.obj a0)] = ⟨.ok (.d (.str txt)), [], true⟩)
    (hbody : ∀ (A : Around) (outer : List Env) (s : Shared) (H : Hp) (E : XK) (p : Addr × Obj), Hot1 A p → Zn (.ref C) none p.2 → DSs (cxH (L2N.CX P w) P w K mg base N qual scope f cdv A outer s H E p) T WF body (m p.1)) :
    KinOk P w K mg base T (k + 1) f (PySem.W.fnOf name qual params body scope dV kV doc pm an cdv ct) [x] C txt := by
  intro A outer s H args p Q E hr hot hpin e0 hb hz hT q
  refine run_ofP lk hcd S (vs := [.ref p.1]) hr hpin e0 hb (.cons rfl .nil) rfl fun _ => ⟨_, hbody A outer s H E p hot hz, ?_⟩
  refine body_post (n := 1) (E := fun _ _ _ => False) (W := WF) (fun _ _ _ _ h => h) (by have := congrArg List.length S.pre; rw [List.length_take] at this; simp at this ⊢; omega) ⟨[], Z0, [.d (.obj p.1)], (fun b o e => by cases e), (fun b o e => by cases e), hT, .d (.obj p.1) .nil, rfl, by rw [hm], fun F' H' e => ?_⟩
  rw [hm]
  intro v r _
  cases r with
  | str _ => exact q H' ⟨fun b o h c => e.keep b o h (by simp) c, e.tabs, e.live⟩
/-- the teller called, in a suite -/
theorem pe_kin {X : Cx} {T : Tab} {k : Nat} {f C a0 : Addr} {fd : FuncData} {txt x y : Str} {oe : Obj} {e : Expr} {te : TE} {q pos : Pos} (F : KinOk X.prog X.w X.K X.mg X.base T k f fd [y] C txt) (hr : RoomH k X.A) (hx : (a0, oe) ∈ X.pn) (hot : Hot1 X.A (a0, oe)) (hz : Zn (.ref C) none oe)
    (hg : Gl X x) (hm : X.mg x = some (.ref f)) (hk : PySem.W.keepIn X.K (.ref f) = true) (hb : Binds X.K fd [y] [])
    (he : PE X e te) (hdb : (x == ("__debug__" : Str)) = false := by decide) (hs : starEach [e] X.env = (false, eval e X.env) :: starEach [] X.env := by rfl) :
    PE X (.Call (.Name x q) [e] [] pos) (fun σ H Q => te σ H fun v H1 => v = .ref a0 ∧ LamX.Tabs T H1 ∧ ∀ H', KeepR T H1 H' → Q (.str txt) H') := by
  refine ⟨fun pins s σ H Q I h => ?_⟩
  refine wpAny_Call_Name_kw (ld_glob I hg hm ?_ hdb)
  have ha : PA X [e] (tCons te tNil) := pa_cons he pa_nil hs
  refine PySem.W.callWith_K (h₀ := X.base) I.ok.mod.kin hk (thn (ha.run pos pins s σ H (fun vs H1 => match vs with
    | [v] => v = .ref a0 ∧ LamX.Tabs T H1 ∧ ∀ H', KeepR T H1 H' → Q (.str txt) H'
    | _ => False) I h) fun us s1 ⟨vs, H1, I1, r, q⟩ => ⟨I1.kIn, ?_⟩) hs rfl
  match vs, q, r with
  | [v], ⟨ev, hT, q⟩, r =>
    subst ev
    obtain ⟨u, rfl, ru⟩ := vals1 r
    obtain rfl : u = Value.ref a0 := ru
    have b := hb s1 [.ref a0] I1.kIn rfl
    rw [List.append_nil] at b
    have P1 := I1.pin (a0, oe) (List.mem_append_left _ hx)
    have hpin : PinOk X.stack H1 s1 (a0, oe) := ⟨P1.1, P1.2.1, fun hm => (List.mem_cons.mp (I1.stkSub a0 hm)).elim P1.2.2.1 P1.2.2.2.1, P1.2.2.2.2⟩
    refine wpAny_call (codeAny_mono (F X.A X.stack s1 H1 ⟨[.ref a0], []⟩ (a0, oe) Q (fun _ _ _ => False) hr hot hpin I1.env0 b hz hT q) fun r s' hq => ?_)
    cases r with
    | error e =>
      obtain ⟨_, _, _, _, _, _, _, _, _, _, _, _, z⟩ := hq
      exact z.elim
    | ok fl =>
      cases fl with
      | ret u => exact I1.after hq
      | next => exact False.elim hq
      | brk => exact False.elim hq
      | cont => exact False.elim hq
end
/-! ### x(lambda: ..): told, or the exception's kind -/
def toldS : Str := "told"
def tryM (kt : Str → Option Str) (m : M SV) : M SV := fun env => match m env with
  | ⟨.ok (.d d), e1, g⟩ => ⟨.ok (.d (.tup [.str toldS, d])), e1, g⟩
  | ⟨.ok (.own 0 xs), e1, g⟩ => ⟨.ok (.d (.tup [.str toldS, .lst xs])), e1, g⟩
  | ⟨.ok (.own (_ + 1) _), e1, _⟩ => ⟨.error default, e1, false⟩
  | ⟨.error x, e1, g⟩ => (match x.arg, kt x.name with
    | none, some txt => ⟨.ok (.d (.str txt)), e1, g⟩
    | _, _ => ⟨.error default, e1, false⟩)
/-- what is known of an exception's name -/
def KtOk (P : Program) (w : World) (K : PySem.W.Frag) (mg : Str → Option Value) (base : Heap) (T : Tab) (kk : Nat) (fk : Addr) (fdk : FuncData) (yk : Str) (TM GE : Addr) (kt : Str → Option Str) : Prop :=
  ∀ nm txt, kt nm = some txt → ∃ C, mg nm = some (.ref C) ∧ PySem.W.exmOne K (.ref C) (.ref TM) = some false ∧ PySem.W.exmOne K (.ref C) (.ref GE) = some true ∧ KinOk P w K mg base T kk fk fdk [yk] C txt
section
variable {X : Cx} {T : Tab} {W : L2.WX}
theorem oe_try {x a fn en tm ge kn yk : Str} {g c P TM GE fk : Addr} {k kk : Nat} {fdk : FuncData} {pg : Arguments} {sg : Scope} {dV kV doc pm cdv ct oc : Value} {an od : Option Addr} {osl : Array (Option Value)} {params : Arguments} {body : Expr} {scope : Scope} {m : M SV} {kt : Str → Option Str} {p lpos pos : Pos}
    {j1 j2} {k1 : Nat} {b1 : Stmt} {s1 : List Stmt} {p1 p2 p3 p4 p5 p6 p7 p8 p9 p10 p11 p12 p13 p14 p15 p16 p17 p18 p19 p20 p21 : Pos} {bg : List Stmt}
    (hg : Gl X x) (hm : X.mg x = some (.ref g)) (hk : PySem.W.keepIn X.K (.ref g) = true)
    (lk : X.K.lookup g = some ⟨oc, od, .func (PySem.W.fnOf x x pg bg sg dV kV doc pm an cdv ct), osl⟩)
    (ebg : bg = [.Assign [.Name fn p1] (.Constant .none j1 p2) p3, .Try [.Assign [.Name fn p4] (.Tuple [.Constant (.str toldS) j2 p5, .Call (.Name a p6) [] [] p7] k1 p8) p9]
        [.ExceptHandler (some (.Name tm p10)) (some en) (b1 :: s1) p11, .ExceptHandler (some (.Name ge p12)) (some en) [.Assign [.Name fn p13] (.Call (.Name kn p14) [.Name en p15] [] p16) p17] p18] [] [] p19, .Return (some (.Name fn p20)) p21])
    (hcg : PySem.W.codeIn X.K cdv x = true) (hb : L2.Binds X.K (PySem.W.fnOf x x pg bg sg dV kV doc pm an cdv ct) [a] []) (Sg : FnScope [a, fn, en] [a] sg)
    (hla : sg.names.lookup a = some .local) (hlf : sg.names.lookup fn = some .local) (hle : sg.names.lookup en = some .local) (htm : sg.names.lookup tm = some .globalImplicit) (hge : sg.names.lookup ge = some .globalImplicit) (hkn : sg.names.lookup kn = some .globalImplicit)
    (mtm : X.mg tm = some (.ref TM)) (mge : X.mg ge = some (.ref GE)) (mkn : X.mg kn = some (.ref fk)) (kkn : PySem.W.keepIn X.K (.ref fk) = true) (bkn : Binds X.K fdk [yk] []) (KT : KtOk X.prog X.w X.K X.mg X.base T kk fk fdk yk TM GE kt)
    (dtm : (tm == ("__debug__" : Str)) = false) (dge : (ge == ("__debug__" : Str)) = false) (dkn : (kn == ("__debug__" : Str)) = false) (da : (a == ("__debug__" : Str)) = false) (ca : (a == ("__classdict__" : Str)) = false) (de : (en == ("__debug__" : Str)) = false) (ce : (en == ("__classdict__" : Str)) = false) (df : (fn == ("__debug__" : Str)) = false) (cf : (fn == ("__classdict__" : Str)) = false)
    (TB : TabB X.base X.mg c P) (hcode : X.env.code = .ref c) (hmT : (P, X.env.qual ++ "<lambda>") ∈ T) (hu : ∀ p ∈ T, p.1 = P → p.2 = X.env.qual ++ "<lambda>") (hr : Room (k + 2) X.A) (hrk : kk ≤ k + 1) (L : LamS X.env.scope scope) (hdef : defaultsOf params X.env = ([], []))
    (hbind : ∀ (q : Str) (cl : List (Str × Addr)) (pm cv ctv : Value), bindArgs (PySem.W.kla_fn "<lambda>" q params body scope cl pm cv ctv) ⟨[], []⟩ = pure [])
    (hbody : ∀ (A : Around) (outer : List Env) (s : Shared) (H : Hp) (E : XK) (f c' : Addr), Room k (A.deeper (lamEnv X scope s.heap.objs.size f c')) → OE (lamN X A outer s H E scope f c') T (fun cls d _ H => E cls d H) body m)
    (hdb : (x == ("__debug__" : Str)) = false := by decide) : OE X T W (.Call (.Name x p) [.Lambda params body scope lpos] [] pos) (tryM kt m) := by
  subst ebg
  refine ⟨fun pins s σ H Q I ⟨Z, H0, B, F0, F, env, sr, pq⟩ => ?_⟩
  refine wpAny_Call_Name_kw (ld_glob I hg hm ?_ hdb)
  refine PySem.W.callWith_K (h₀ := X.base) I.ok.mod.kin hk ?_ (by rfl) (by rfl)
  show wpAny _ _ (spliced ((false, eval (.Lambda params body scope lpos) X.env) :: backTo pos (starEach [] X.env))) _ _ s
  refine Calls.spliced_cons (lam_make2 I TB hcode hmT hu sr.tabs hdef (L.has I.ok) fun f c' pm' ctv H1 s' I1 eN T1 hf hfn hfr hco => ?_)
  refine Calls.spliced_nil ⟨I1.kIn, ?_⟩
  have sr1 := sr.kept (KeepR.of_ext (fun z => by rw [z] at hmT; cases hmT) eN T1)
  have rc : codeAny (model X.prog X.w) X.A (.call (.ref g) ⟨[.ref f], []⟩) (CR C8.CX0 X.stack X.prog X.w H1 s' Q C8.E0) s' := by
    refine run_ofS (N := [a, fn, en]) (ps := [a]) (us := [.ref f]) (vs := [.ref f]) lk hcg Sg hr I1.env0 (hb s' [.ref f] I1.kIn rfl) (.cons rfl .nil) rfl fun hr' => ?_
    have kin : ∀ (a0 : Addr) (oe : Obj) (cls : Value) (d : Option Addr) (pn : List (Addr × Obj)), Zn cls d oe → (∃ vs, oe.data = .fields vs) → PE ((cxOf C8.CX0 X.prog X.w X.K X.mg X.base [a, fn, en] x sg g cdv X.A X.stack s' H1 C8.E0).nox.suite a0 ((a0, oe) :: pn)) (.Call (.Name kn p14) [.Name en p15] [] p16)
        (fun τ G R => (τ : List (Option V))[2]? = some (some (V.ref a0)) ∧ ∃ C txt, cls = .ref C ∧ d = none ∧ KinOk X.prog X.w X.K X.mg X.base T kk fk fdk [yk] C txt ∧ LamX.Tabs T G ∧ ∀ G', KeepR T G G' → R (.str txt) G') := fun a0 oe cls d pn hz hf => by
      refine ⟨fun pins s τ G R I ⟨h1, C, txt, ec, ed, KF, hT, q⟩ => ?_⟩
      subst ec ed
      obtain ⟨vs, hv⟩ := hf
      have hd : ∃ vs : Array Value, oe.data = .fields vs ∧ vs[2]? = some .none := ⟨vs, hv, hz.2.2 vs hv⟩
      have rz := (roomH_of hr').mono hrk
      refine (pe_kin (X := (cxOf C8.CX0 X.prog X.w X.K X.mg X.base [a, fn, en] x sg g cdv X.A X.stack s' H1 C8.E0).nox.suite a0 ((a0, oe) :: pn)) KF ?_ List.mem_cons_self ⟨rfl, hd⟩ hz hkn mkn kkn bkn (pe_var (i := 2) rfl (.inl hle) de ce) dkn).run pins s τ G R I ⟨.ref a0, h1, rfl, hT, q⟩
      exact ⟨rz.dp, rz.un⟩
    refine ⟨_, PSs.nox (pss_cons (ps_set (i := 1) (X := (cxOf C8.CX0 X.prog X.w X.K X.mg X.base [a, fn, en] x sg g cdv X.A X.stack s' H1 C8.E0).nox) Sg.nd rfl (.inl hlf) pe_non (hf := .inr hlf)) (pss_cons (ps_try_manyAs (i := 2) (tb := fun W => tAsg (tTup (tCons (tC (.str toldS)) (tCons (fun τ HZ Q => τ[0]? = some (some (V.ref f)) ∧ HZ c' = some (CodeO c' (X.env.qual ++ "<lambda>")) ∧ LiftO X.K X.mg T (fun cls d _ G => W cls d τ G) m σ HZ Q) tNil))) (gName 1)) (Wout := fun _ _ _ _ => False)
      (l := [(.ref TM, fun _ _ _ => tNever), (.ref GE, fun a0 cls d => tAsg (fun τ G R => (τ : List (Option V))[2]? = some (some (V.ref a0)) ∧ ∃ C txt, cls = .ref C ∧ d = none ∧ KinOk X.prog X.w X.K X.mg X.base T kk fk fdk [yk] C txt ∧ LamX.Tabs T G ∧ ∀ G', KeepR T G G' → R (.str txt) G') (gName 1))])
      rfl rfl Sg.nd rfl hle (fun u s z => by
        obtain ⟨_, _, _, _, _, _, _, _, _, _, _, _, _, _, _, _, z⟩ := z
        exact z.elim) (fun W pn xe tk _ => ?_) (.cons ⟨htm, dtm, .inl mtm⟩ (fun _ _ _ _ _ _ _ => pss_never) (.cons ⟨hge, dge, .inl mge⟩ (fun a0 oe cls d pn hz hf => pss_one (ps_set (i := 1) Sg.nd rfl (.inl hlf) (kin a0 oe cls d pn hz hf) (hf := .inr hlf))) .nil)))
      (pss_one (ps_ret (pe_var (i := 1) rfl (.inl hlf) df cf))))), ?_⟩
    · have act := pe_actN (k := k) (i := 0) (a := a) (p1 := p6) (p2 := p7) (pn := pn) (xe := xe) (W := W) (E := fun τ cls d G => W cls d τ G) (tb := fun E => LiftO X.K X.mg T (fun cls d _ G => E cls d G) m) I1 L hf hfn hfr (hbind _ _ _ _ _) (CXg := C8.CX0) (Eg := C8.E0) (Ng := [a, fn, en]) (qg := x) (sg := sg) (g := g) (cdg := cdv) tk (fun _ _ _ _ h => h) hr' (fun E A outer s H hr2 => hbody A outer s H E f c' hr2) rfl (.inl hla) da ca
      exact pss_one (ps_set (i := 1) Sg.nd rfl (.inl hlf) (pe_tup (pa_cons pe_str (pa_cons act pa_nil))) (hf := .inr hlf))
    · refine ⟨rfl, hco, Z, H0, B, F0, F, env, sr1, ?_⟩
      unfold tryM at pq
      generalize m env = o at pq ⊢
      obtain ⟨v, e1, g1⟩ := o
      cases v with
      | ok v =>
        cases v with
        | d d =>
          refine ⟨pq.1, fun F' H' f' s' y fr => ⟨by show 2 ≤ sizeLine; decide, fun q hq => ?_⟩⟩
          obtain ⟨s2, f2⟩ := s'.laidF hq (o := .tup [.str toldS, y]) trivial
          exact ⟨.ref q, rfl, pq.2 _ _ (f'.trans f2) s2 _ (FR.datum (.tup (SqT.of upd_same) (.cons (.str _) (.cons (Rep.mono f2 fr.1) .nil))))⟩
        | own t xs =>
          cases t with
          | succ t => cases pq.1
          | zero =>
            refine ⟨pq.1, fun F' H' f' s' y fr => ⟨by show 2 ≤ sizeLine; decide, fun q hq => ?_⟩⟩
            obtain ⟨F1, f1, s1, r1⟩ := s'.frozen fr
            obtain ⟨s2, f2⟩ := s1.laidF hq (o := .tup [.str toldS, y]) trivial
            exact ⟨.ref q, rfl, pq.2 _ _ ((f'.trans f1).trans f2) s2 _ (FR.datum (.tup (SqT.of upd_same) (.cons (.str _) (.cons (Rep.mono f2 r1) .nil))))⟩
      | error ex =>
        obtain ⟨nm, ar⟩ := ex
        cases ar with
        | some d => cases pq.1
        | none =>
          simp only at pq
          cases hk : kt nm with
          | none =>
            rw [hk] at pq
            cases pq.1
          | some txt =>
            rw [hk] at pq
            obtain ⟨C, mC, x1, x2, KF⟩ := KT nm txt hk
            refine ⟨pq.1, fun F' H' cls dx f' s' er => ?_⟩
            rcases er with ⟨C2, ec, mC2, ed⟩ | ⟨z, _⟩
            · have mC2 : X.mg nm = some (.ref C2) := mC2
              rw [mC] at mC2
              cases mC2
              subst ec
              have ed : dx = none := ed
              subst ed
              exact ⟨false, x1, fun z => (by cases z), fun _ => ⟨true, x2, fun _ a0 na => ⟨rfl, C, txt, rfl, rfl, KF, s'.tabs, fun G' kr => ⟨.str txt, rfl, pq.2 F' G' f' (s'.kept kr) _ (FR.datum (.str txt))⟩⟩, fun z => (by cases z)⟩⟩
            · have z : X.mg nm = none := z
              rw [mC] at z
              cases z
  refine wpAny_call (codeAny_mono rc fun r s2 hq => ?_)
  cases r with
  | error e => exact (show False from hq).elim
  | ok fl =>
    cases fl with
    | ret u => exact I1.after hq
    | next => exact False.elim hq
    | brk => exact False.elim hq
    | cont => exact False.elim hq
end
end DL
set_option maxHeartbeats 1000000
/-! Short rules that a printed walk uses. -/
namespace DL
open PySem PySem.Spec PyProof.Rows L2
section
variable {X : Cx} {T : Tab} {W : L2.WX} {a b c e : Expr} {es : List Expr} {pos p : Pos}
theorem vl {i : Nat} {x : Str} (hv : X.env.scope.names.lookup x = some .local) (hN : X.N[i]? = some x := by rfl) (hd : (x == ("__debug__" : Str)) = false := by decide) (hcd : (x == ("__classdict__" : Str)) = false := by decide) : PE X (.Name x pos) (tVar i) := pe_var hN (.inl hv) hd hcd
theorem vc {i : Nat} {x : Str} (hv : X.env.scope.names.lookup x = some .cell) (hN : X.N[i]? = some x := by rfl) (hd : (x == ("__debug__" : Str)) = false := by decide) (hcd : (x == ("__classdict__" : Str)) = false := by decide) : PE X (.Name x pos) (tVar i) := pe_var hN (.inr (.inl hv)) hd hcd
theorem vf {i : Nat} {x : Str} (hv : X.env.scope.names.lookup x = some .free) (hN : X.N[i]? = some x := by rfl) (hd : (x == ("__debug__" : Str)) = false := by decide) (hcd : (x == ("__classdict__" : Str)) = false := by decide) : PE X (.Name x pos) (tVar i) := pe_var hN (.inr (.inr hv)) hd hcd
theorem takesF : L2N.Takes X WF := fun u s z => by
  obtain ⟨_, _, _, _, _, _, _, _, _, _, _, _, _, _, _, _, z⟩ := z
  exact z.elim
theorem pts_yes {K : PySem.W.Frag} {mg : Str → Option Value} : PTs X [] (LiftT K mg T WF yesT) := ⟨fun pins s σ H Q I ⟨Z, H0, B, F0, F, env, sr, p⟩ => pts_nil.run pins s σ H Q I (p.2 F H (Same.refl _) sr)⟩
theorem pts_if {m : M Bool} (h : DT X T WF c m) : PTs X [c] (LiftT X.K X.mg T WF m) := pts_one h
section
variable {ma mb mc : M D} (hu : X.A.units + 64 < cLine)
include hu
theorem de_eq (ha : DE X T W a ma) (hb : DE X T W b mb) (hm : behindInMarks .Eq b = false := nomark _) : DE X T W (.Compare a [.Eq] [b] pos) (bin2 eqF ma mb) := de_cmp (op_eqD hu) r_eq ha hb hm
theorem de_ne (ha : DE X T W a ma) (hb : DE X T W b mb) (hm : behindInMarks .NotEq b = false := nomark _) : DE X T W (.Compare a [.NotEq] [b] pos) (bin2 neF ma mb) := de_cmp (op_neD hu) r_ne ha hb hm
theorem dt_eq (ha : DE X T W a ma) (hb : DE X T W b mb) (hm : behindInMarks .Eq b = false := nomark _) : DT X T W (.Compare a [.Eq] [b] pos) (tB (bin2 eqF ma mb)) := dt_cmp (op_eqD hu) r_eq ha hb hm
theorem dt_ne (ha : DE X T W a ma) (hb : DE X T W b mb) (hm : behindInMarks .NotEq b = false := nomark _) : DT X T W (.Compare a [.NotEq] [b] pos) (tB (bin2 neF ma mb)) := dt_cmp (op_neD hu) r_ne ha hb hm
end
section
variable {ma mb mc : M D} (ha : DE X T W a ma) (hb : DE X T W b mb)
include ha hb
theorem de_lt : DE X T W (.Compare a [.Lt] [b] pos) (bin2 (cmpF ltP) ma mb) := de_cmp op_lt r_lt ha hb (nomark _)
theorem de_le : DE X T W (.Compare a [.LtE] [b] pos) (bin2 (cmpF leP) ma mb) := de_cmp op_le r_le ha hb (nomark _)
theorem de_gt : DE X T W (.Compare a [.Gt] [b] pos) (bin2 (cmpF gtP) ma mb) := de_cmp op_gt r_gt ha hb (nomark _)
theorem de_ge : DE X T W (.Compare a [.GtE] [b] pos) (bin2 (cmpF geP) ma mb) := de_cmp op_ge r_ge ha hb (nomark _)
theorem de_is : DE X T W (.Compare a [.Is] [b] pos) (bin2 isF ma mb) := de_cmp op_isN r_is ha hb (nomark _)
theorem de_isNot : DE X T W (.Compare a [.IsNot] [b] pos) (bin2 isNotF ma mb) := de_cmp op_notN r_isNot ha hb (nomark _)
theorem de_in (hm : behindInMarks .In b = false := by rfl) : DE X T W (.Compare a [.In] [b] pos) (bin2 (inF false) ma mb) := de_cmp op_in_seq r_in ha hb hm
theorem de_notIn (hm : behindInMarks .NotIn b = false := by rfl) : DE X T W (.Compare a [.NotIn] [b] pos) (bin2 (inF true) ma mb) := de_cmp op_notIn_seq r_in ha hb hm
theorem dt_lt : DT X T W (.Compare a [.Lt] [b] pos) (tB (bin2 (cmpF ltP) ma mb)) := dt_cmp op_lt r_lt ha hb (nomark _)
theorem dt_le : DT X T W (.Compare a [.LtE] [b] pos) (tB (bin2 (cmpF leP) ma mb)) := dt_cmp op_le r_le ha hb (nomark _)
theorem dt_gt : DT X T W (.Compare a [.Gt] [b] pos) (tB (bin2 (cmpF gtP) ma mb)) := dt_cmp op_gt r_gt ha hb (nomark _)
theorem dt_ge : DT X T W (.Compare a [.GtE] [b] pos) (tB (bin2 (cmpF geP) ma mb)) := dt_cmp op_ge r_ge ha hb (nomark _)
theorem dt_is : DT X T W (.Compare a [.Is] [b] pos) (tB (bin2 isF ma mb)) := dt_cmp op_isN r_is ha hb (nomark _)
theorem dt_isNot : DT X T W (.Compare a [.IsNot] [b] pos) (tB (bin2 isNotF ma mb)) := dt_cmp op_notN r_isNot ha hb (nomark _)
theorem dt_in (hm : behindInMarks .In b = false := by rfl) : DT X T W (.Compare a [.In] [b] pos) (tB (bin2 (inF false) ma mb)) := dt_cmp op_in_seq r_in ha hb hm
theorem dt_notIn (hm : behindInMarks .NotIn b = false := by rfl) : DT X T W (.Compare a [.NotIn] [b] pos) (tB (bin2 (inF true) ma mb)) := dt_cmp op_notIn_seq r_in ha hb hm
end
section
variable {m : M (List D)}
theorem de_len (hm : X.mg "len" = none) (ha : DA X T W [e] m) (hg : Gl X "len" := by rfl) (he : starEach [e] X.env = (false, eval e X.env) :: starEach [] X.env := by rfl) : DE X T W (.Call (.Name "len" p) [e] [] pos) (bnd m lenF) := de_callB call_len r_len (by decide +kernel) hm ha hg (by decide) (by decide) he rfl
theorem de_abs (hm : X.mg "abs" = none) (ha : DA X T W [e] m) (hg : Gl X "abs" := by rfl) (he : starEach [e] X.env = (false, eval e X.env) :: starEach [] X.env := by rfl) : DE X T W (.Call (.Name "abs" p) [e] [] pos) (bnd m absF) := de_callB call_abs r_abs (by decide +kernel) hm ha hg (by decide) (by decide) he rfl
theorem de_intC (hm : X.mg "int" = none) (ha : DA X T W [e] m) (hg : Gl X "int" := by rfl) (he : starEach [e] X.env = (false, eval e X.env) :: starEach [] X.env := by rfl) : DE X T W (.Call (.Name "int" p) [e] [] pos) (bnd m intF) := de_callTy call_int1 r_int (by decide +kernel) hm ha hg (by decide) (by decide) he rfl
theorem de_all (hc : X.calm = true) (hm : X.mg "all" = none) (ha : DA X T W [e] m) (hg : Gl X "all" := by rfl) (he : starEach [e] X.env = (false, eval e X.env) :: starEach [] X.env := by rfl) : DE X T W (.Call (.Name "all" p) [e] [] pos) (bnd m allF) := de_callB (cr_all hc) r_all (by decide +kernel) hm ha hg (by decide) (by decide) he rfl
theorem de_any (hc : X.calm = true) (hm : X.mg "any" = none) (ha : DA X T W [e] m) (hg : Gl X "any" := by rfl) (he : starEach [e] X.env = (false, eval e X.env) :: starEach [] X.env := by rfl) : DE X T W (.Call (.Name "any" p) [e] [] pos) (bnd m anyF) := de_callB (cr_any hc) r_any (by decide +kernel) hm ha hg (by decide) (by decide) he rfl
theorem de_sum (hc : X.calm = true) (hm : X.mg "sum" = none) (ha : DA X T W [e] m) (hg : Gl X "sum" := by rfl) (he : starEach [e] X.env = (false, eval e X.env) :: starEach [] X.env := by rfl) : DE X T W (.Call (.Name "sum" p) [e] [] pos) (bnd m sumF) := de_callB (cr_sum hc) r_sum (by decide +kernel) hm ha hg (by decide) (by decide) he rfl
theorem de_tuple (hm : X.mg "tuple" = none) (ha : DA X T W [e] m) (hg : Gl X "tuple" := by rfl) (he : starEach [e] X.env = (false, eval e X.env) :: starEach [] X.env := by rfl) : DE X T W (.Call (.Name "tuple" p) [e] [] pos) (bnd m tupleF) := de_callTy call_tuple_of r_tuple (by decide +kernel) hm ha hg (by decide) (by decide) he rfl
theorem oe_list (hm : X.mg "list" = none) (ha : DA X T W [e] m) (hg : Gl X "list" := by rfl) (he : starEach [e] X.env = (false, eval e X.env) :: starEach [] X.env := by rfl) : OE X T W (.Call (.Name "list" p) [e] [] pos) (bnd m listF) := oe_callTy call_list_of r_list (by decide +kernel) hm ha hg (by decide) (by decide) he rfl
theorem oe_sorted (hu : X.A.units + 64 < cLine) (hm : X.mg "sorted" = none) (ha : DA X T W [e] m) (hg : Gl X "sorted" := by rfl) (he : starEach [e] X.env = (false, eval e X.env) :: starEach [] X.env := by rfl) : OE X T W (.Call (.Name "sorted" p) [e] [] pos) (bnd m sortF) := oe_callB (call_sortD hu) r_sort (by decide +kernel) hm ha hg (by decide) (by decide) he rfl
theorem de_max2 (hc : X.calm = true) (hm : X.mg "max" = none) (ha : DA X T W [a, b] m) (hg : Gl X "max" := by rfl) (he : starEach [a, b] X.env = (false, eval a X.env) :: starEach [b] X.env := by rfl) (hpl : (backTo pos (starEach [b] X.env)).any (·.1) = false := by rfl) : DE X T W (.Call (.Name "max" p) [a, b] [] pos) (bnd m maxF) := de_callB (call_max2 hc) r_max (by decide +kernel) hm ha hg (by decide) (by decide) he hpl
theorem de_min2 (hc : X.calm = true) (hm : X.mg "min" = none) (ha : DA X T W [a, b] m) (hg : Gl X "min" := by rfl) (he : starEach [a, b] X.env = (false, eval a X.env) :: starEach [b] X.env := by rfl) (hpl : (backTo pos (starEach [b] X.env)).any (·.1) = false := by rfl) : DE X T W (.Call (.Name "min" p) [a, b] [] pos) (bnd m minF) := de_callB (call_min2 hc) r_min (by decide +kernel) hm ha hg (by decide) (by decide) he hpl
theorem de_strC (hm : X.mg "str" = none) (ha : DA X T W [e] m) (hg : Gl X "str" := by rfl) (he : starEach [e] X.env = (false, eval e X.env) :: starEach [] X.env := by rfl) : DE X T W (.Call (.Name "str" p) [e] [] pos) (bnd m strF) := de_callTy call_str_int r_str (by decide +kernel) hm ha hg (by decide) (by decide) he rfl
end
/-! tuple * int -/
def repTF : D → D → M D
  | .tup (x :: xs), .int k => fun e => ⟨.ok (.tup (List.replicate k.toNat (x :: xs)).flatten), e, decide (2 ≤ k ∧ k ≤ 1000 ∧ (x :: xs).length ≤ 1000)⟩
  | _, _ => bad
theorem rep_flat {K : PySem.W.Frag} {F : Hp} {vs : List V} {ds : List D} (h : RepAll K F vs ds) : ∀ n : Nat, RepAll K F (List.replicate n vs).flatten (List.replicate n ds).flatten
  | 0 => .nil
  | n + 1 => by
    rw [List.replicate_succ, List.replicate_succ, List.flatten_cons, List.flatten_cons]
    exact h.append (rep_flat h n)
theorem de_repT {ma mb : M D} (ha : DE X T W a ma) (hb : DE X T W b mb) : DE X T W (.BinOp a .Mult b pos) (bin2 repTF ma mb) := de_bin op_repT ha hb fun {Z H0 B F0 F env σ H Q x y u v} s rx ry p => by
  cases rx with
  | @tup q vs ds h1 h2 =>
    cases ds with
    | nil => cases p.1
    | cons d ds =>
      cases ry with
      | int k =>
        obtain ⟨c1, c2, c3⟩ := of_decide_eq_true (p := 2 ≤ k ∧ k ≤ 1000 ∧ (d :: ds).length ≤ 1000) p.1
        refine ⟨q, k, vs, rfl, rfl, sameT s.sub h1, fun z => ?_, c1, c2, by rw [RepAll.length h2]; exact c3, fun pp hp => ?_⟩
        · subst z
          cases h2
        · obtain ⟨s2, f2⟩ := s.laidF hp (o := .tup (List.replicate k.toNat vs).flatten) trivial
          exact p.2 _ _ f2 s2 _ (.tup (SqT.of upd_same) (RepAll.mono f2 (rep_flat h2 _)))
      | _ => cases p.1
  | _ => cases p.1
/-! a, b, c = .. -/
def par3S (i j l : Nat) (m : M (List D)) : MS := bndS m fun ds env => match ds with
  | [d, d2, d3] => ⟨.next, ((env.set i (some (.d d))).set j (some (.d d2))).set l (some (.d d3)), true⟩
  | _ => ⟨.next, env, false⟩
theorem ds_par3 {i j l : Nat} {x y z : Str} {m : M (List D)} {px py pz pt : Pos} {kt k2 pt2} (hc : X.calm = true) (hN : X.N.Nodup) (hi : X.N[i]? = some x) (hj : X.N[j]? = some y) (hl : X.N[l]? = some z) (hij : i ≠ j) (hil : i ≠ l) (hjl : j ≠ l)
    (hx : X.env.scope.names.lookup x = some .local) (hy : X.env.scope.names.lookup y = some .local) (hz : X.env.scope.names.lookup z = some .local) (ha : DA X T W [a, b, c] m)
    (hw : swappedStores [.Tuple [.Name x px, .Name y py, .Name z pz] kt pt] (.Tuple [a, b, c] k2 pt2) X.env = pure (some [x, y, z]))
    (hs : swapsWithSole [.Tuple [.Name x px, .Name y py, .Name z pz] kt pt] (.Tuple [a, b, c] k2 pt2) pos.line X.env = pure false := by rfl) :
    DS X T W (.Assign [.Tuple [.Name x px, .Name y py, .Name z pz] kt pt] (.Tuple [a, b, c] k2 pt2) pos) (par3S i j l m) :=
  PS.imp (ps_par3 hc hN hi hj hl hij hil hjl hx hy hz ha hw hs) fun D σ H ⟨Z, H0, B, F0, F, env, s, p⟩ => ⟨Z, H0, B, F0, F, env, s, (PostS.bnd p).imp fun F1 H1 ds f1 s1 p1 xs rx => by
    match ds, p1, rx with
    | [d, d2, d3], p1, rx =>
      cases rx with
      | cons r1 rx =>
        obtain ⟨y, z, rfl, r2, r3⟩ := rep2 rx
        exact ⟨_, y, z, rfl, p1.2 F1 _ H1 (Same.refl _) (((s1.stored (FR.datum r1)).stored (FR.datum r2)).stored (FR.datum r3))⟩
    | [], p1, rx => cases p1.1
    | [_], p1, rx => cases p1.1
    | [_, _], p1, rx => cases p1.1
    | _ :: _ :: _ :: _ :: _, p1, rx => cases p1.1⟩
/-! a, b = x, y, where one is a list of its own -/
section
variable {K : PySem.W.Frag} {Z H0 : Hp} {B : List Addr} {F0 F : Hp} {env : Ev} {σ : L2.St} {H : Hp}
/-- a value is guarded while others are made -/
theorem SR.guard (s : SR K T Z H0 B F0 F env σ H) {v : SV} {x : V} (fr : FR K T Z H0 B F H env σ v x) : ∃ Z', SR K T Z' H0 B F0 F env σ H ∧ ∀ F2 H2 env2, Same F F2 → SR K T Z' H0 B F0 F2 env2 σ H2 → SR K T Z H0 B F0 F2 env2 σ H2 ∧ FR K T Z H0 B F2 H2 env2 σ v x ∧
    ∀ u y, FR K T Z' H0 B F2 H2 env2 σ u y → FR K T Z H0 B F2 H2 env2 σ u y ∧ ∀ t xs t2 ys, v = .own t xs → u = .own t2 ys → x ≠ y := by
  cases v with
  | d d => exact ⟨Z, s, fun F2 H2 env2 f2 s2 => ⟨s2, FR.datum (Rep.mono f2 fr.1), fun u y fu => ⟨fu, fun t xs t2 ys e => by cases e⟩⟩⟩
  | own t xs =>
    obtain ⟨⟨a, vs, rfl, h1, h2, h3, h4, h5⟩, h6⟩ := fr
    obtain ⟨rfl, h7⟩ := h6 t xs rfl
    refine ⟨upd Z a (.lst vs), ⟨s.sub, s.pure, s.sub0, s.new, s.keep, s.tabs, s.bor, s.live, s.len, fun b o e => ?_, fun b e => ?_, fun i v e => ?_, s.apart⟩, fun F2 H2 env2 f2 s2 => ?_⟩
    · by_cases q : b = a
      · subst q
        rw [upd_same] at e
        cases e
        exact h1
      · rw [upd_ne q] at e
        exact s.prot b o e
    · by_cases q : b = a
      · subst q
        exact ⟨h2, vs, upd_same⟩
      · rw [upd_ne q] at e ⊢
        exact s.zf b e
    · obtain ⟨y, ey, r⟩ := s.slots i v e
      refine ⟨y, ey, ?_⟩
      cases v with
      | d d => exact r
      | own t2 ys =>
        obtain ⟨c, us, rfl, g1, g2, g3, g4, g5⟩ := r
        have n : c ≠ a := fun z => by
          subst z
          exact h7 i c rfl (by rw [e]; rfl) ey
        exact ⟨c, us, rfl, g1, g2, by rw [upd_ne n]; exact g3, g4, g5⟩
    · have h3 : Z a = none := h3
      have weak : ∀ {u : SV} {y : V}, SVR K T (upd Z a (.lst vs)) H0 B F2 H2 u y → SVR K T Z H0 B F2 H2 u y ∧ ∀ t2 ys, u = .own t2 ys → y ≠ .ref a := fun {u y} r => by
        cases u with
        | d d => exact ⟨r, fun t2 ys e => by cases e⟩
        | own t2 ys =>
          obtain ⟨c, us, rfl, g1, g2, g3, g4, g5⟩ := r
          have n : c ≠ a := fun z => by
            subst z
            rw [upd_same] at g3
            cases g3
          exact ⟨⟨c, us, rfl, g1, g2, by rw [upd_ne n] at g3; exact g3, g4, g5⟩, fun _ _ _ z => by cases z; exact n rfl⟩
      refine ⟨s2.letgo h3, ⟨⟨a, vs, rfl, s2.prot a _ upd_same, (s2.zf a (by rw [upd_same]; simp)).1, h3, RepAll.mono f2 h4, h5⟩, fun t ys e => ⟨by cases e; rfl, fun i b eb ho q => ?_⟩⟩, fun u y fu => ⟨⟨(weak fu.1).1, fu.2⟩, fun t xs t2 ys _ e z => (weak fu.1).2 t2 ys e z.symm⟩⟩
      cases eb
      obtain ⟨t3, zs, eo⟩ := isOwn_some ho
      obtain ⟨y, ey, r⟩ := s2.slots i _ eo
      rw [q] at ey
      cases ey
      exact (weak r).2 t3 zs rfl rfl
end
def parO (i j : Nat) (ma mb : M SV) : MS := bndS ma fun u => bndS mb fun v env => ⟨.next, (env.set i (some u)).set j (some v), true⟩
theorem ds_parO {i j : Nat} {x y : Str} {ma mb : M SV} {px py pt : Pos} {kt k2 pt2} (hc : X.calm = true) (hN : X.N.Nodup) (hi : X.N[i]? = some x) (hj : X.N[j]? = some y) (hij : i ≠ j)
    (hx : X.env.scope.names.lookup x = some .local) (hy : X.env.scope.names.lookup y = some .local) (ha : OE X T W a ma) (hb : OE X T W b mb)
    (hw : swappedStores [.Tuple [.Name x px, .Name y py] kt pt] (.Tuple [a, b] k2 pt2) X.env = pure (some [x, y]))
    (hs : swapsWithSole [.Tuple [.Name x px, .Name y py] kt pt] (.Tuple [a, b] k2 pt2) pos.line X.env = pure false := by rfl)
    (h1 : starEach [a, b] X.env = (false, eval a X.env) :: starEach [b] X.env := by rfl) (h2 : starEach [b] X.env = (false, eval b X.env) :: starEach [] X.env := by rfl) :
    DS X T W (.Assign [.Tuple [.Name x px, .Name y py] kt pt] (.Tuple [a, b] k2 pt2) pos) (parO i j ma mb) :=
  PS.imp (ps_par hc hN hi hj hij hx hy (pa_cons ha (pa_cons hb pa_nil h2) h1) hw hs) fun D σ H ⟨Z, H0, B, F0, F, env, s, p⟩ => ⟨Z, H0, B, F0, F, env, s, (PostS.bnd p).imp fun F1 H1 v f1 s1 p1 x fx => by
    obtain ⟨Z', s1', k⟩ := s1.guard fx
    have pb := PostS.bnd (σ := σ) p1
    refine ⟨Z', H0, B, F0, F1, _, s1', pb.1, ?_⟩
    have pq := pb.2
    cases q : (mb (ma env).env).val with
    | error er =>
      rw [q] at pq
      exact fun F' H' cls dx f' s' er => pq F' H' cls dx f' (k F' H' _ f' s').1 er
    | ok u =>
      rw [q] at pq
      intro F2 H2 f2 s2 y fy
      obtain ⟨s3, fx3, kk⟩ := k F2 H2 _ f2 s2
      obtain ⟨fy3, ne⟩ := kk u y fy
      refine ⟨x, y, rfl, (pq F2 H2 f2 s3).2 F2 _ H2 (Same.refl _) ((s3.stored fx3).stored ⟨fy3.1, fun t xs e => ⟨(fy3.2 t xs e).1, fun l c ec ho eq => ?_⟩⟩)⟩
      by_cases li : l = i
      · subst li
        obtain ⟨t', ys, eo⟩ := isOwn_some ho
        have hl : l < (mb (ma env).env).env.length := by
          by_cases hl : l < (mb (ma env).env).env.length
          · exact hl
          · rw [List.getElem?_eq_none (by simpa using hl)] at eo
            cases eo
        rw [List.getElem?_set_self hl] at eo
        cases eo
        have hs := s3.len
        rw [List.getElem?_set_self (by rw [← hs]; exact hl)] at eq
        cases eq
        exact ne t' ys t xs rfl e ec.symm
      · rw [List.getElem?_set_ne (Ne.symm li)] at ho eq
        exact (fy3.2 t xs e).2 l c ec ho eq⟩
/-! raise -/
def raiseS (nm : Str) : MS := fun env => ⟨.exc ⟨nm, none⟩, env, true⟩
theorem ds_raise {x m : Str} {j : Nat} {p2 p3 : Pos} {C : Addr} (hc : X.calm = true) (tk : L2N.Takes X W) (gC : X.mg x = some (.ref C)) (q : PySem.W.excIn X.K C He.veBase "ValueError.__new__" = true) (kC : PySem.W.keepIn X.K (.ref C) = true) (h1 : PySem.W.subIn X.K (.ref C) (.type "BaseException") = some true) (h2 : PySem.W.typeIn X.K (.ref C) = some (.type "type"))
    (hg : Gl X x := by rfl) (hdb : (x == ("__debug__" : Str)) = false := by decide) : DS X T W (.Raise (some (.Call (.Name x p) [.Constant (.str m) j p2] [] p3)) none pos) (raiseS x) :=
  PS.imp (L2N.ps_raise hc tk (L2N.pmk_own PySem.F.excBase_ValueError q gC kC (raises_own h1 h2) hg hdb)) fun D σ H ⟨Z, H0, B, F0, F, env, s, p⟩ => p.2 F σ H (.ref C) none (Same.refl _) s (.inl ⟨C, rfl, gC, rfl⟩)
end
/-- a def, by the head's datum -/
theorem fnD_D {P : Program} {w : World} {K : PySem.W.Frag} {mg : Str → Option Value} {base : Heap} {T : Tab} {k : Nat} {x qual : Str} {params : Arguments} {body : List Stmt} {scope : Scope} {dvs : List V} {kws : List (Str × V)} {f : Addr} {fd : FuncData} {N ps : List Str} {m : MS}
    (F : FunD K x qual params body scope dvs kws f fd) (S : FnScope N ps scope)
    (hbody : ∀ (cdv : Value) (A : Around) (outer : List Env) (s : Shared) (H : Hp) (E : XK), Room k (A.deeper (envOfC qual scope s.heap.objs.size f cdv)) → L2N.Takes (cxOf (L2N.CX P w) P w K mg base N qual scope f cdv A outer s H E) (fun cls d _ H => E cls d H) →
      DSs (cxOf (L2N.CX P w) P w K mg base N qual scope f cdv A outer s H E) T (fun cls d _ H => E cls d H) body m) : FnD P w K mg base T (k + 1) f fd ps (runDef N.length m) := by
  obtain ⟨oc, od, dV, kV, doc, pm, an, cdv, ct, osl, rfl, lk, hcd, _, _⟩ := F.ex
  exact fnD_of lk hcd S fun A outer s H E hr tk => hbody cdv A outer s H E hr tk
/-- the same, its code object named -/
theorem fnD_C {P : Program} {w : World} {K : PySem.W.Frag} {mg : Str → Option Value} {base : Heap} {T : Tab} {k : Nat} {x qual : Str} {params : Arguments} {body : List Stmt} {scope : Scope} {dvs : List V} {kws : List (Str × V)} {pt : He.Defn} {fd : FuncData} {N ps : List Str} {m : MS}
    (F : FunD K x qual params body scope dvs kws (He.fAd K pt) fd) (S : FnScope N ps scope)
    (hbody : ∀ (A : Around) (outer : List Env) (s : Shared) (H : Hp) (E : XK), Room k (A.deeper (envOfC qual scope s.heap.objs.size (He.fAd K pt) (.ref (He.codeOf K pt)))) → L2N.Takes (cxOf (L2N.CX P w) P w K mg base N qual scope (He.fAd K pt) (.ref (He.codeOf K pt)) A outer s H E) (fun cls d _ H => E cls d H) →
      DSs (cxOf (L2N.CX P w) P w K mg base N qual scope (He.fAd K pt) (.ref (He.codeOf K pt)) A outer s H E) T (fun cls d _ H => E cls d H) body m) : FnD P w K mg base T (k + 1) (He.fAd K pt) fd ps (runDef N.length m) := by
  obtain ⟨oc, od, dV, kV, doc, pm, an, cdv, ct, osl, rfl, lk, hcd, _, _⟩ := F.ex
  obtain ⟨c, ec⟩ := He.codeIn_ref hcd
  have e := He.codeOf_eq lk (show (PySem.W.fnOf x qual params body scope dV kV doc pm an cdv ct).code = .ref c from ec)
  subst ec
  rw [← e] at hcd ⊢
  rw [← e] at lk
  exact fnD_of lk hcd S fun A outer s H E hr tk => hbody A outer s H E hr tk
end DL
namespace DL
open PySem PySem.Spec PyProof.Rows L2 L2N L2H LamX
section
variable {X : Cx} {T : Tab} {W : L2.WX}
/-- oe_try, the def by the head's datum -/
theorem oe_tryD {x a fn en tm ge kn yk : Str} {g c P TM GE fk : Addr} {k kk : Nat} {fd fdk : FuncData} {pg : Arguments} {bg : List Stmt} {sg : Scope} {dvs : List V} {kws : List (Str × V)} {params : Arguments} {body : Expr} {scope : Scope} {m : M SV} {kt : Str → Option Str} {p lpos pos : Pos}
    {j1 j2} {k1 : Nat} {b1 : Stmt} {s1 : List Stmt} {p1 p2 p3 p4 p5 p6 p7 p8 p9 p10 p11 p12 p13 p14 p15 p16 p17 p18 p19 p20 p21 : Pos}
    (hg : Gl X x) (hm : X.mg x = some (.ref g)) (F : FunD X.K x x pg bg sg dvs kws g fd)
    (ebg : bg = [.Assign [.Name fn p1] (.Constant .none j1 p2) p3, .Try [.Assign [.Name fn p4] (.Tuple [.Constant (.str toldS) j2 p5, .Call (.Name a p6) [] [] p7] k1 p8) p9]
        [.ExceptHandler (some (.Name tm p10)) (some en) (b1 :: s1) p11, .ExceptHandler (some (.Name ge p12)) (some en) [.Assign [.Name fn p13] (.Call (.Name kn p14) [.Name en p15] [] p16) p17] p18] [] [] p19, .Return (some (.Name fn p20)) p21])
    (hb : L2.Binds X.K fd [a] []) (Sg : FnScope [a, fn, en] [a] sg)
    (hla : sg.names.lookup a = some .local) (hlf : sg.names.lookup fn = some .local) (hle : sg.names.lookup en = some .local) (htm : sg.names.lookup tm = some .globalImplicit) (hge : sg.names.lookup ge = some .globalImplicit) (hkn : sg.names.lookup kn = some .globalImplicit)
    (mtm : X.mg tm = some (.ref TM)) (mge : X.mg ge = some (.ref GE)) (mkn : X.mg kn = some (.ref fk)) (kkn : PySem.W.keepIn X.K (.ref fk) = true) (bkn : Binds X.K fdk [yk] []) (KT : KtOk X.prog X.w X.K X.mg X.base T kk fk fdk yk TM GE kt)
    (TB : TabB X.base X.mg c P) (hcode : X.env.code = .ref c) (hmT : (P, X.env.qual ++ "<lambda>") ∈ T) (hu : ∀ p ∈ T, p.1 = P → p.2 = X.env.qual ++ "<lambda>") (hr : Room (k + 2) X.A) (hrk : kk ≤ k + 1) (L : LamS X.env.scope scope) (hdef : defaultsOf params X.env = ([], []))
    (hbind : ∀ (q : Str) (cl : List (Str × Addr)) (pm cv ctv : Value), bindArgs (PySem.W.kla_fn "<lambda>" q params body scope cl pm cv ctv) ⟨[], []⟩ = pure [])
    (hbody : ∀ (A : Around) (outer : List Env) (s : Shared) (H : Hp) (E : XK) (f c' : Addr), Room k (A.deeper (lamEnv X scope s.heap.objs.size f c')) → OE (lamN X A outer s H E scope f c') T (fun cls d _ H => E cls d H) body m)
    (dtm : (tm == ("__debug__" : Str)) = false := by decide) (dge : (ge == ("__debug__" : Str)) = false := by decide) (dkn : (kn == ("__debug__" : Str)) = false := by decide) (da : (a == ("__debug__" : Str)) = false := by decide) (ca : (a == ("__classdict__" : Str)) = false := by decide) (de : (en == ("__debug__" : Str)) = false := by decide) (ce : (en == ("__classdict__" : Str)) = false := by decide) (df : (fn == ("__debug__" : Str)) = false := by decide) (cf : (fn == ("__classdict__" : Str)) = false := by decide)
    (hdb : (x == ("__debug__" : Str)) = false := by decide) : OE X T W (.Call (.Name x p) [.Lambda params body scope lpos] [] pos) (tryM kt m) := by
  obtain ⟨oc, od, dV, kV, doc, pm, an, cdv, ct, osl, rfl, lk, hcd, _, _⟩ := F.ex
  exact oe_try hg hm F.kp lk ebg hcd hb Sg hla hlf hle htm hge hkn mtm mge mkn kkn bkn KT dtm dge dkn da ca de ce df cf TB hcode hmT hu hr hrk L hdef hbind hbody hdb
/-- kin_of, the def by the head's datum -/
theorem kin_D {P : Program} {w : World} {K : PySem.W.Frag} {mg : Str → Option Value} {base : Heap} {T : Tab} {f C : Addr} {fd : FuncData} {name qual : Str} {params : Arguments} {body : List Stmt} {scope : Scope} {dvs : List V} {kws : List (Str × V)} {N : List Str} {x txt : Str} {m : Addr → MS}
    (F : FunD K name qual params body scope dvs kws f fd) (S : FnScope N [x] scope) (hm : ∀ a0, runDef N.length (m a0) [.d (.obj a0)] = ⟨.ok (.d (.str txt)), [], true⟩)
    (hbody : ∀ (cdv : Value) (A : Around) (outer : List Env) (s : Shared) (H : Hp) (E : XK) (p : Addr × Obj), Hot1 A p → Zn (.ref C) none p.2 → DSs (cxH (L2N.CX P w) P w K mg base N qual scope f cdv A outer s H E p) T WF body (m p.1)) : KinOk P w K mg base T 1 f fd [x] C txt := by
  obtain ⟨oc, od, dV, kV, doc, pm, an, cdv, ct, osl, rfl, lk, hcd, _, _⟩ := F.ex
  exact kin_of lk hcd S hm fun A outer s H E p hot hz => hbody cdv A outer s H E p hot hz
end
end DL
set_option maxHeartbeats 1000000
/-! Running the mirrors, step by step. -/
namespace DL
open PySem PySem.Spec L2
section
variable {α β : Type} {m : M α} {k : α → M β} {e e1 e2 : Ev} {x : α} {g g2 : Bool}
theorem out_and {v : Except Exc α} : (⟨v, e, true && g⟩ : Out α) = ⟨v, e, g⟩ := by rw [Bool.true_and]
theorem andO : ∀ o : Out β, (match o with
    | ⟨v, e2, g2⟩ => (⟨v, e2, true && g2⟩ : Out β)) = o := fun ⟨_, _, _⟩ => by simp
theorem andS : ∀ o : SOut, (match o with
    | ⟨v, e2, g2⟩ => (⟨v, e2, true && g2⟩ : SOut)) = o := fun ⟨_, _, _⟩ => by simp
theorem bnd_g (h : m e = ⟨.ok x, e1, g⟩) (hg : g = true) : bnd m k e = k x e1 := by
  subst hg
  unfold bnd
  rw [h]
  exact andO _
theorem bnd_err {er : Exc} (h : m e = ⟨.error er, e1, g⟩) : bnd m k e = ⟨.error er, e1, g⟩ := by
  unfold bnd
  rw [h]
theorem bndS_g {k : α → MS} (h : m e = ⟨.ok x, e1, g⟩) (hg : g = true) : bndS m k e = k x e1 := by
  subst hg
  unfold bndS
  rw [h]
  exact andS _
theorem bndS_err {k : α → MS} {er : Exc} (h : m e = ⟨.error er, e1, g⟩) : bndS m k e = ⟨.exc er, e1, g⟩ := by
  unfold bndS
  rw [h]
theorem seqS_g {a b : MS} (h : a e = ⟨.next, e1, g⟩) (hg : g = true) : seqS a b e = b e1 := by
  subst hg
  unfold seqS
  rw [h]
  exact andS _
theorem seqS_ret {a b : MS} {v : SV} (h : a e = ⟨.ret v, e1, g⟩) : seqS a b e = ⟨.ret v, e1, g⟩ := by
  unfold seqS
  rw [h]
theorem seqS_exc {a b : MS} {v : Exc} (h : a e = ⟨.exc v, e1, g⟩) : seqS a b e = ⟨.exc v, e1, g⟩ := by
  unfold seqS
  rw [h]
theorem ifS_g {t : M Bool} {a b : MS} {c : Bool} (h : t e = ⟨.ok c, e1, g⟩) (hg : g = true) : ifS t a b e = (if c = true then a else b) e1 := bndS_g h hg
theorem ifS_t {t : M Bool} {a b : MS} (h : t e = ⟨.ok true, e1, true⟩) : ifS t a b e = a e1 := (bndS_g h rfl).trans (by rw [if_pos rfl])
theorem ifS_f {t : M Bool} {a b : MS} (h : t e = ⟨.ok false, e1, true⟩) : ifS t a b e = b e1 := (bndS_g h rfl).trans (by rw [if_neg (by decide)])
theorem forS_g {it : M (List D)} {tg : MT} {b : MS} {xs : List D} (h : it e = ⟨.ok xs, e1, g⟩) (hg : g = true) : forS it tg b e = forL tg b xs e1 := bndS_g h hg
theorem forL_cons {tg : MT} {b : MS} {d : D} {r : List D} {e3 : Ev} (h1 : tg d e = some e1) (h2 : b e1 = ⟨.next, e2, true⟩) : forL tg b (d :: r) e = forL tg b r e2 := by
  rw [forL]
  simp only [h1, h2]
  generalize forL tg b r e2 = o
  obtain ⟨v, e4, g4⟩ := o
  simp
theorem forL_ret {tg : MT} {b : MS} {d : D} {r : List D} {v : SV} (h1 : tg d e = some e1) (h2 : b e1 = ⟨.ret v, e2, true⟩) : forL tg b (d :: r) e = ⟨.ret v, e2, true⟩ := by
  rw [forL]
  simp only [h1, h2]
/-- a loop by an invariant -/
theorem forL_inv {tg : MT} {b : MS} (I : Nat → Ev → Prop) : ∀ (xs : List D) (n : Nat) (e : Ev), I n e → (∀ i e d, xs[i]? = some d → I (n + i) e → ∃ e1 e2, tg d e = some e1 ∧ b e1 = ⟨.next, e2, true⟩ ∧ I (n + i + 1) e2) → ∃ e2, forL tg b xs e = ⟨.next, e2, true⟩ ∧ I (n + xs.length) e2
  | [], n, e, h, _ => ⟨e, rfl, h⟩
  | d :: r, n, e, h, st => by
    obtain ⟨e1, e2, h1, h2, h3⟩ := st 0 e d rfl h
    obtain ⟨e3, h4, h5⟩ := forL_inv I r (n + 1) e2 h3 fun i e d hd hi => by
      have q := st (i + 1) e d (by simpa using hd) (by rw [show n + (i + 1) = n + 1 + i by omega]; exact hi)
      rw [show n + (i + 1) + 1 = n + 1 + i + 1 by omega] at q
      exact q
    refine ⟨e3, (forL_cons (e3 := e3) h1 h2).trans h4, ?_⟩
    rw [List.length_cons, Nat.add_comm r.length 1, ← Nat.add_assoc]
    exact h5
end
section
variable {n : Nat} {m : MS} {args : List SV} {env : Ev} {g : Bool} {out : List D}
theorem run_d {d : D} (h : m (startE n args) = ⟨.ret (.d d), env, g⟩) (hg : g = true) (ho : outS args env = some out) : runDef n m args = ⟨.ok (.d d), out, true⟩ := by
  subst hg
  unfold runDef
  rw [h]
  simp only [finR, ho]
theorem run_o {xs : List D} (h : m (startE n args) = ⟨.ret (.own 0 xs), env, g⟩) (hg : g = true) (ho : outS args env = some out) : runDef n m args = ⟨.ok (.own 0 xs), out, true⟩ := by
  subst hg
  unfold runDef
  rw [h]
  simp only [finR, ho]
theorem run_n (h : m (startE n args) = ⟨.next, env, g⟩) (hg : g = true) (ho : outS args env = some out) : runDef n m args = ⟨.ok (.d .non), out, true⟩ := by
  subst hg
  unfold runDef
  rw [h]
  simp only [finR, ho]
theorem run_e {x : Exc} (h : m (startE n args) = ⟨.exc x, env, g⟩) (hg : g = true) (ho : outS args env = some out) : runDef n m args = ⟨.error x, out, true⟩ := by
  subst hg
  unfold runDef
  rw [h]
  simp only [finR, ho]
end
section
variable {f : Fn} {m : M (List AV)} {e e1 : Ev} {as : List AV} {args : List SV} {v : Except Exc SV} {out : List D} {g : Bool}
/-- a call that is lent nothing -/
theorem call_0 (h : m e = ⟨.ok as, e1, g⟩) (hg : g = true) (ha : mkArgs e1 as = some args) (hl : lentS e1 as = []) (hf : f args = ⟨v, out, true⟩) : callM f m e = ⟨v, e1, true⟩ := by
  unfold callM
  rw [bnd_g h hg]
  simp only [ha, hl, hf]
theorem call_1 {i t : Nat} {ys : List D} (h : m e = ⟨.ok as, e1, g⟩) (hg : g = true) (ha : mkArgs e1 as = some args) (hl : lentS e1 as = [i]) (hi : e1[i]? = some (some (.own t ys))) (hf : f args = ⟨v, out, true⟩) : callM f m e = ⟨v, e1.set i (some (.own t out)), true⟩ := by
  unfold callM
  rw [bnd_g h hg]
  simp only [ha, hl, hf, putBack, hi]
end
section
variable {own : List Nat} {tg : MT} {tt : M Bool} {me : M D} {e e1 e2 e3 : Ev} {x d : D} {r acc : List D}
theorem lcL_take (h1 : tg x (wipeE own e) = some e1) (h2 : tt e1 = ⟨.ok true, e2, true⟩) (h3 : me e2 = ⟨.ok d, e3, true⟩) (hl : acc.length < mx) : lcL own tg tt me (x :: r) acc e = lcL own tg tt me r (acc ++ [d]) e3 := by
  rw [lcL]
  simp only [h1, h2, h3, decide_eq_true hl]
  generalize lcL own tg tt me r (acc ++ [d]) e3 = o
  obtain ⟨v, e4, g4⟩ := o
  simp
theorem lcL_skip (h1 : tg x (wipeE own e) = some e1) (h2 : tt e1 = ⟨.ok false, e2, true⟩) : lcL own tg tt me (x :: r) acc e = lcL own tg tt me r acc e2 := by
  rw [lcL]
  simp only [h1, h2]
  generalize lcL own tg tt me r acc e2 = o
  obtain ⟨v, e4, g4⟩ := o
  simp
/-- a comprehension whose turns leave the slots (its own names wiped) as they are: what is kept of each item is told by f -/
theorem lcL_map (I : Ev → Prop) (f : D → Option D) : ∀ (xs acc : List D) (e : Ev), I (wipeE own e) → acc.length + xs.length ≤ mx → (∀ x ∈ xs, ∀ e, I e → ∃ e1 e2 e3, tg x e = some e1 ∧ ((f x = none ∧ tt e1 = ⟨.ok false, e2, true⟩ ∧ I (wipeE own e2)) ∨ (∃ d, f x = some d ∧ tt e1 = ⟨.ok true, e2, true⟩ ∧ me e2 = ⟨.ok d, e3, true⟩ ∧ I (wipeE own e3)))) →
    ∃ e4, lcL own tg tt me xs acc e = ⟨.ok (acc ++ xs.filterMap f), e4, true⟩ ∧ I (wipeE own e4)
  | [], acc, e, h, _, _ => ⟨e, by rw [lcL, List.filterMap_nil, List.append_nil], h⟩
  | x :: r, acc, e, h, hl, st => by
    obtain ⟨e1, e2, e3, h1, h2⟩ := st x List.mem_cons_self _ h
    rw [List.length_cons] at hl
    rcases h2 with ⟨hf, h2, hI⟩ | ⟨d, hf, h2, h3, hI⟩
    · obtain ⟨e4, h5, h6⟩ := lcL_map I f r acc e2 hI (by omega) fun y hy => st y (List.mem_cons_of_mem _ hy)
      exact ⟨e4, by rw [lcL_skip h1 h2, h5, List.filterMap_cons, hf], h6⟩
    · obtain ⟨e4, h5, h6⟩ := lcL_map I f r (acc ++ [d]) e3 hI (by rw [List.length_append, List.length_singleton]; omega) fun y hy => st y (List.mem_cons_of_mem _ hy)
      exact ⟨e4, by rw [lcL_take h1 h2 h3 (by omega), h5, List.filterMap_cons, hf, List.append_assoc, List.singleton_append], h6⟩
theorem wipe_idem (own : List Nat) (e : Ev) : wipeE own (wipeE own e) = wipeE own e := by
  apply List.ext_getElem?
  intro j
  rw [wipeE_get, wipeE_get, wipeE_length]
  by_cases c : j ∈ own
  · simp only [c, if_true]
  · simp only [c, if_false]
theorem rest_wipe (own : List Nat) (e0 e : Ev) : restE own e0 e = restE own e0 (wipeE own e) := by
  apply List.ext_getElem?
  intro j
  rw [restE_get, restE_get, wipeE_length, wipeE_get]
  by_cases c : j ∈ own
  · simp only [c, if_true]
  · simp only [c, if_false]
theorem lc_ok {it : M (List D)} {xs acc : List D} {e4 : Ev} {g : Bool} (h : it e = ⟨.ok xs, e1, g⟩) (hg : g = true) (hr : lcL own tg tt me xs [] (wipeE own e1) = ⟨.ok acc, e4, true⟩) : lcO own it tg tt me e = ⟨.ok (.own 0 acc), restE own e1 (wipeE own e4), true⟩ := by
  rw [← rest_wipe]
  refine (bnd_g h hg).trans ?_
  unfold lcF
  rw [hr]
/-- a comprehension that changes no slot but its own names -/
theorem lc_pure {it : M (List D)} {xs : List D} {g : Bool} (f : D → Option D) (h : it e = ⟨.ok xs, e1, g⟩) (hg : g = true) (hx : xs.length ≤ mx) (st : ∀ x ∈ xs, ∃ a1 a2 a3, tg x (wipeE own e1) = some a1 ∧ ((f x = none ∧ tt a1 = ⟨.ok false, a2, true⟩ ∧ wipeE own a2 = wipeE own e1) ∨ (∃ d, f x = some d ∧ tt a1 = ⟨.ok true, a2, true⟩ ∧ me a2 = ⟨.ok d, a3, true⟩ ∧ wipeE own a3 = wipeE own e1))) :
    lcO own it tg tt me e = ⟨.ok (.own 0 (xs.filterMap f)), restE own e1 (wipeE own e1), true⟩ := by
  obtain ⟨e4, h5, h6⟩ := lcL_map (own := own) (tg := tg) (tt := tt) (me := me) (fun e => e = wipeE own e1) f xs [] (wipeE own e1) (wipe_idem own e1) (by simpa using hx) fun x hm e he => by
    subst he
    exact st x hm
  rw [List.nil_append] at h5
  rw [lc_ok h hg h5, h6]
theorem lc_map {it : M (List D)} {xs : List D} {g : Bool} (f : D → D) (h : it e = ⟨.ok xs, e1, g⟩) (hg : g = true) (hx : xs.length ≤ mx) (st : ∀ x ∈ xs, ∃ a1 a3, tg x (wipeE own e1) = some a1 ∧ me a1 = ⟨.ok (f x), a3, true⟩ ∧ wipeE own a3 = wipeE own e1) :
    lcO own it tg yesT me e = ⟨.ok (.own 0 (xs.map f)), restE own e1 (wipeE own e1), true⟩ := by
  have q := lc_pure (own := own) (tg := tg) (tt := yesT) (me := me) (fun x => some (f x)) h hg hx fun x hm => by
    obtain ⟨a1, a3, h1, h2, h3⟩ := st x hm
    exact ⟨a1, a1, a3, h1, .inr ⟨f x, rfl, rfl, h2, h3⟩⟩
  rw [q]
  congr 3
  induction xs with
  | nil => rfl
  | cons x r ih => simp
theorem bls_map (b : D → Bool) : ∀ xs : List D, blsOf (xs.map fun x => .bl (b x)) = some (xs.map b)
  | [] => rfl
  | x :: r => by
    show (blsOf (r.map fun x => .bl (b x))).map _ = _
    rw [bls_map b r]
    rfl
theorem all_map {m : M SV} {xs : List D} (b : D → Bool) (h : m e = ⟨.ok (.own 0 (xs.map fun x => .bl (b x))), e1, true⟩) : (bnd (consA (toD m) nilA) allF) e = ⟨.ok (.bl (xs.all b)), e1, true⟩ := by
  have h2 : (toD m) e = ⟨.ok (.lst (xs.map fun x => .bl (b x))), e1, true⟩ := (bnd_g h rfl).trans rfl
  have h3 : (consA (toD m) nilA) e = ⟨.ok [.lst (xs.map fun x => .bl (b x))], e1, true⟩ := (bnd_g h2 rfl).trans rfl
  refine (bnd_g h3 rfl).trans ?_
  simp only [allF, bls_map]
  have z : (xs.map b).all id = xs.all b := by
    induction xs with
    | nil => rfl
    | cons x r ih => simp
  rw [z]
  rfl
theorem ofD_ok {m : M D} {d : D} {g : Bool} (h : m e = ⟨.ok d, e1, g⟩) (hg : g = true) : ofD m e = ⟨.ok (.d d), e1, true⟩ := (bnd_g h hg).trans rfl
theorem toD_d {m : M SV} {d : D} {g : Bool} (h : m e = ⟨.ok (.d d), e1, g⟩) (hg : g = true) : toD m e = ⟨.ok d, e1, true⟩ := (bnd_g h hg).trans rfl
theorem toD_o {m : M SV} {xs : List D} {g : Bool} (h : m e = ⟨.ok (.own 0 xs), e1, g⟩) (hg : g = true) : toD m e = ⟨.ok (.lst xs), e1, true⟩ := (bnd_g h hg).trans rfl
theorem retS_ok {m : M SV} {v : SV} {g : Bool} (h : m e = ⟨.ok v, e1, g⟩) (hg : g = true) : retS m e = ⟨.ret v, e1, true⟩ := (bndS_g h hg).trans rfl
theorem asgS_ok {i : Nat} {m : M SV} {v : SV} {g : Bool} (h : m e = ⟨.ok v, e1, g⟩) (hg : g = true) : asgS i m e = ⟨.next, e1.set i (some v), true⟩ := (bndS_g h hg).trans rfl
theorem dropS_ok {m : M SV} {v : SV} {g : Bool} (h : m e = ⟨.ok v, e1, g⟩) (hg : g = true) : dropS m e = ⟨.next, e1, true⟩ := (bndS_g h hg).trans rfl
theorem tB_ok {m : M D} {b g : Bool} (h : m e = ⟨.ok (.bl b), e1, g⟩) (hg : g = true) : tB m e = ⟨.ok b, e1, true⟩ := (bnd_g h hg).trans rfl
theorem notT_ok {m : M Bool} {b g : Bool} (h : m e = ⟨.ok b, e1, g⟩) (hg : g = true) : notT m e = ⟨.ok (!b), e1, true⟩ := (bnd_g h hg).trans rfl
theorem orT_f {a c : M Bool} {g : Bool} (h : a e = ⟨.ok false, e1, g⟩) (hg : g = true) : orT a c e = c e1 := (bnd_g h hg).trans rfl
theorem orT_t {a c : M Bool} {g : Bool} (h : a e = ⟨.ok true, e1, g⟩) (hg : g = true) : orT a c e = ⟨.ok true, e1, true⟩ := (bnd_g h hg).trans rfl
theorem andT_f {a c : M Bool} {g : Bool} (h : a e = ⟨.ok false, e1, g⟩) (hg : g = true) : andT a c e = ⟨.ok false, e1, true⟩ := (bnd_g h hg).trans rfl
theorem andT_t {a c : M Bool} {g : Bool} (h : a e = ⟨.ok true, e1, g⟩) (hg : g = true) : andT a c e = c e1 := (bnd_g h hg).trans rfl
theorem andE_f {a c : M D} {g : Bool} (h : a e = ⟨.ok (.bl false), e1, g⟩) (hg : g = true) : andE a c e = ⟨.ok (.bl false), e1, true⟩ := (bnd_g (tB_ok h hg) rfl).trans rfl
theorem andE_t {a c : M D} {g : Bool} (h : a e = ⟨.ok (.bl true), e1, g⟩) (hg : g = true) : andE a c e = c e1 := (bnd_g (tB_ok h hg) rfl).trans rfl
theorem chain2_t {p q : D → D → M D} {ma mb mc : M D} {x y : D} {ea eb ec : Ev} {g g2 g3 : Bool} (h1 : ma e = ⟨.ok x, ea, g⟩) (hg : g = true) (h2 : mb ea = ⟨.ok y, eb, g2⟩) (hg2 : g2 = true) (h3 : p x y eb = ⟨.ok (.bl true), ec, g3⟩) (hg3 : g3 = true) : chain2 p q ma mb mc e = (bnd mc fun z => q y z) ec :=
  (bnd_g h1 hg).trans ((bnd_g h2 hg2).trans ((bnd_g (tB_ok h3 hg3) rfl).trans rfl))
theorem chain2_f {p q : D → D → M D} {ma mb mc : M D} {x y : D} {ea eb ec : Ev} {g g2 g3 : Bool} (h1 : ma e = ⟨.ok x, ea, g⟩) (hg : g = true) (h2 : mb ea = ⟨.ok y, eb, g2⟩) (hg2 : g2 = true) (h3 : p x y eb = ⟨.ok (.bl false), ec, g3⟩) (hg3 : g3 = true) : chain2 p q ma mb mc e = ⟨.ok (.bl false), ec, true⟩ :=
  (bnd_g h1 hg).trans ((bnd_g h2 hg2).trans ((bnd_g (tB_ok h3 hg3) rfl).trans rfl))
theorem cmp_out {p : Int → Int → Bool} {i j : Int} {b : Bool} (h : p i j = b) : cmpF p (.int i) (.int j) e = ⟨.ok (.bl b), e, true⟩ := by
  subst h
  rfl
theorem ixV_ok {i : Nat} {mb : M D} {d : D} (hs : isSome2 e[i]? = true) (h : mb e = ⟨.ok d, e1, true⟩) : ixV i mb e = atS i d e1 := by
  unfold ixV
  rw [if_pos hs]
  exact bnd_g h rfl
theorem putS_ok {i : Nat} {mi me : M D} {d k : D} (h : me e = ⟨.ok d, e1, true⟩) (hs : isSome2 e1[i]? = true) (h2 : mi e1 = ⟨.ok k, e2, true⟩) : putS i mi me e = putAt i d k e2 := by
  refine (bndS_g h rfl).trans ?_
  rw [if_pos hs]
  exact bndS_g h2 rfl
theorem consV_ok {m : M D} {r : M (List AV)} {d : D} {as : List AV} (h : m e = ⟨.ok d, e1, true⟩) (h2 : r e1 = ⟨.ok as, e2, true⟩) : consV m r e = ⟨.ok (.v d :: as), e2, true⟩ := (bnd_g h rfl).trans ((bnd_g h2 rfl).trans rfl)
theorem consL_ok {i : Nat} {r : M (List AV)} {v : SV} {as : List AV} (hs : e[i]? = some (some v)) (h : r e = ⟨.ok as, e1, true⟩) : consL i r e = ⟨.ok (.s i :: as), e1, true⟩ := by
  unfold consL
  rw [hs]
  exact (bnd_g h rfl).trans rfl
theorem consA_ok {m : M D} {r : M (List D)} {d : D} {as : List D} (h : m e = ⟨.ok d, e1, true⟩) (h2 : r e1 = ⟨.ok as, e2, true⟩) : consA m r e = ⟨.ok (d :: as), e2, true⟩ := (bnd_g h rfl).trans ((bnd_g h2 rfl).trans rfl)
theorem bin2_ok {α : Type} {f : D → D → M α} {a b : M D} {x y : D} (h : a e = ⟨.ok x, e1, true⟩) (h2 : b e1 = ⟨.ok y, e2, true⟩) : bin2 f a b e = f x y e2 := (bnd_g h rfl).trans (bnd_g h2 rfl)
/-- a comprehension by an invariant of the slots -/
theorem lcL_inv (I : Nat → Ev → Prop) (P : D → Prop) : ∀ (xs acc : List D) (n : Nat) (e : Ev), I n (wipeE own e) → acc.length + xs.length ≤ mx → (∀ i e x, xs[i]? = some x → I (n + i) e → ∃ e1 e2 e3 d, tg x e = some e1 ∧ tt e1 = ⟨.ok true, e2, true⟩ ∧ me e2 = ⟨.ok d, e3, true⟩ ∧ P d ∧ I (n + i + 1) (wipeE own e3)) →
    ∃ e4 ds, lcL own tg tt me xs acc e = ⟨.ok (acc ++ ds), e4, true⟩ ∧ ds.length = xs.length ∧ (∀ d ∈ ds, P d) ∧ I (n + xs.length) (wipeE own e4)
  | [], acc, n, e, h, _, _ => ⟨e, [], by rw [lcL, List.append_nil], rfl, (fun d hd => by cases hd), h⟩
  | x :: r, acc, n, e, h, hl, st => by
    rw [List.length_cons] at hl
    obtain ⟨e1, e2, e3, d, h1, h2, h3, hp, hI⟩ := st 0 _ x rfl h
    obtain ⟨e4, ds, h5, h6, h7, h8⟩ := lcL_inv I P r (acc ++ [d]) (n + 1) e3 hI (by rw [List.length_append, List.length_singleton]; omega) fun i e y hy hi => by
      have q := st (i + 1) e y (by simpa using hy) (by rw [show n + (i + 1) = n + 1 + i by omega]; exact hi)
      rw [show n + (i + 1) + 1 = n + 1 + i + 1 by omega] at q
      exact q
    refine ⟨e4, d :: ds, by rw [lcL_take h1 h2 h3 (by omega), h5, List.append_assoc, List.singleton_append], by rw [List.length_cons, List.length_cons, h6], fun y hy => ?_, ?_⟩
    · rcases List.mem_cons.mp hy with z | z
      · rw [z]
        exact hp
      · exact h7 y z
    · rw [List.length_cons, show n + (r.length + 1) = n + 1 + r.length by omega]
      exact h8
end
end DL
set_option maxHeartbeats 1000000
/-! DLW: the mirrors by their wishes: WP, WS, and one rule a piece. -/
namespace DL
open PySem PySem.Spec L2
def WP {α : Type} (m : M α) (e : Ev) (Q : α → Ev → Prop) (X : Exc → Ev → Prop) : Prop := ∃ (v : Except Exc α) (e1 : Ev), m e = ⟨v, e1, true⟩ ∧ (match v with
  | .ok x => Q x e1
  | .error x => X x e1)
def WS (m : MS) (e : Ev) (Q : Fl → Ev → Prop) : Prop := ∃ (f : Fl) (e1 : Ev), m e = ⟨f, e1, true⟩ ∧ Q f e1
/-- exceptions of an expression in a statement -/
abbrev xS (Q : Fl → Ev → Prop) : Exc → Ev → Prop := fun x e => Q (.exc x) e
section
variable {α β : Type} {e e1 : Ev} {X : Exc → Ev → Prop}
theorem wp_ok {m : M α} {x : α} {Q : α → Ev → Prop} (h : m e = ⟨.ok x, e1, true⟩) (q : Q x e1) : WP m e Q X := ⟨.ok x, e1, h, q⟩
theorem wp_err {m : M α} {x : Exc} {Q : α → Ev → Prop} (h : m e = ⟨.error x, e1, true⟩) (q : X x e1) : WP m e Q X := ⟨.error x, e1, h, q⟩
theorem ws_of {m : MS} {f : Fl} {Q : Fl → Ev → Prop} (h : m e = ⟨f, e1, true⟩) (q : Q f e1) : WS m e Q := ⟨f, e1, h, q⟩
theorem wp_val {m : M α} {x : α} {Q : α → Ev → Prop} (h : (m e).val = .ok x) (g : (m e).good = true) (q : Q x (m e).env) : WP m e Q X := by
  refine ⟨.ok x, (m e).env, ?_, q⟩
  rw [← h, ← g]
theorem WP.imp {m : M α} {Q Q' : α → Ev → Prop} {X X' : Exc → Ev → Prop} (h : WP m e Q X) (i : ∀ x e1, Q x e1 → Q' x e1) (j : ∀ x e1, X x e1 → X' x e1) : WP m e Q' X' := by
  obtain ⟨v, e1, h1, h2⟩ := h
  refine ⟨v, e1, h1, ?_⟩
  cases v with
  | ok x => exact i _ _ h2
  | error x => exact j _ _ h2
theorem WS.imp {m : MS} {Q Q' : Fl → Ev → Prop} (h : WS m e Q) (i : ∀ x e1, Q x e1 → Q' x e1) : WS m e Q' := by
  obtain ⟨v, e1, h1, h2⟩ := h
  exact ⟨v, e1, h1, i _ _ h2⟩
theorem wp_bnd {m : M α} {k : α → M β} {Q : β → Ev → Prop} (h : WP m e (fun x e1 => WP (k x) e1 Q X) X) : WP (bnd m k) e Q X := by
  obtain ⟨v, e1, h1, h2⟩ := h
  cases v with
  | ok x =>
    obtain ⟨w, e2, h3, h4⟩ := h2
    exact ⟨w, e2, by rw [bnd_g h1 rfl, h3], h4⟩
  | error x => exact ⟨.error x, e1, bnd_err h1, h2⟩
theorem ws_bnd {m : M α} {k : α → MS} {Q : Fl → Ev → Prop} (h : WP m e (fun x e1 => WS (k x) e1 Q) (xS Q)) : WS (bndS m k) e Q := by
  obtain ⟨v, e1, h1, h2⟩ := h
  cases v with
  | ok x =>
    obtain ⟨w, e2, h3, h4⟩ := h2
    exact ⟨w, e2, by rw [bndS_g h1 rfl, h3], h4⟩
  | error x => exact ⟨.exc x, e1, bndS_err h1, h2⟩
theorem wp_ret {x : α} {Q : α → Ev → Prop} (q : Q x e) : WP (ret x) e Q X := ⟨.ok x, e, rfl, q⟩
theorem wp_yes {Q : Bool → Ev → Prop} (q : Q true e) : WP yesT e Q X := ⟨.ok true, e, rfl, q⟩
end
section
variable {e e1 : Ev} {X : Exc → Ev → Prop} {Q : D → Ev → Prop} {QV : SV → Ev → Prop} {QB : Bool → Ev → Prop} {QL : List D → Ev → Prop} {QA : List AV → Ev → Prop}
/-! ### leaves -/
theorem wp_const {d : D} (q : Q d e) : WP (constE d) e Q X := ⟨.ok d, e, rfl, q⟩
theorem wp_var {i : Nat} {d : D} (h : e[i]? = some (some (.d d))) (q : Q d e) : WP (varE i) e Q X := ⟨.ok d, e, by unfold varE; rw [h], q⟩
theorem wp_varO {i : Nat} {xs : List D} (h : e[i]? = some (some (.own 0 xs))) (q : Q (.lst xs) (e.set i (some (.d (.lst xs))))) : WP (varE i) e Q X := ⟨.ok (.lst xs), _, by unfold varE; simp only [h], q⟩
theorem wp_take {i : Nat} {d : D} (h : e[i]? = some (some (.d d))) (q : QV (.d d) e) : WP (takeO i) e QV X := ⟨.ok (.d d), e, by unfold takeO; rw [h], q⟩
theorem wp_takeO {i : Nat} {xs : List D} (h : e[i]? = some (some (.own 0 xs))) (q : QV (.own 0 xs) (e.set i none)) : WP (takeO i) e QV X := ⟨.ok (.own 0 xs), _, by unfold takeO; simp only [h], q⟩
def TD (v : SV) (e : Ev) (Q : D → Ev → Prop) : Prop := match v with
  | .d x => Q x e
  | .own 0 xs => Q (.lst xs) e
  | .own (_ + 1) _ => False
theorem td_d {x : D} (q : Q x e) : TD (.d x) e Q := q
theorem td_o {xs : List D} (q : Q (.lst xs) e) : TD (.own 0 xs) e Q := q
theorem wp_toD {m : M SV} (h : WP m e (fun v e1 => TD v e1 Q) X) : WP (toD m) e Q X := wp_bnd (h.imp (fun v e1 q => by
  cases v with
  | d x => exact wp_ret q
  | own t xs =>
    cases t with
    | zero => exact wp_ret q
    | succ n => exact q.elim) fun _ _ q => q)
theorem wp_ofD {m : M D} (h : WP m e (fun d e1 => QV (.d d) e1) X) : WP (ofD m) e QV X := wp_bnd (h.imp (fun v e1 q => wp_ret q) fun _ _ q => q)
theorem wp_bin2 {α : Type} {Q : α → Ev → Prop} {f : D → D → M α} {a b : M D} (h : WP a e (fun x e1 => WP b e1 (fun y e2 => WP (f x y) e2 Q X) X) X) : WP (bin2 f a b) e Q X := wp_bnd (h.imp (fun v e1 q => wp_bnd q) fun _ _ q => q)
theorem wp_un1 {f : D → M D} {a : M D} (h : WP a e (fun x e1 => WP (f x) e1 Q X) X) : WP (un1 f a) e Q X := wp_bnd h
theorem wp_nilA (q : QL [] e) : WP nilA e QL X := ⟨.ok [], e, rfl, q⟩
theorem wp_consA {m : M D} {r : M (List D)} (h : WP m e (fun x e1 => WP r e1 (fun xs e2 => QL (x :: xs) e2) X) X) : WP (consA m r) e QL X := wp_bnd (h.imp (fun v e1 q => wp_bnd (q.imp (fun _ _ q => wp_ret q) fun _ _ q => q)) fun _ _ q => q)
def LenP {α : Type} (ds : List α) (P : Prop) : Prop := ds.length ≤ mx ∧ P
theorem lenP {α : Type} {ds : List α} {P : Prop} (h : ds.length ≤ mx) (q : P) : LenP ds P := ⟨h, q⟩
theorem wp_tup {m : M (List D)} (h : WP m e (fun ds e1 => LenP ds (Q (.tup ds) e1)) X) : WP (tupE m) e Q X := wp_bnd (h.imp (fun v e1 q => ⟨.ok (.tup v), e1, by rw [decide_eq_true q.1], q.2⟩) fun _ _ q => q)
theorem wp_lst {m : M (List D)} (h : WP m e (fun ds e1 => LenP ds (QV (.own 0 ds) e1)) X) : WP (lstO m) e QV X := wp_bnd (h.imp (fun v e1 q => ⟨.ok (.own 0 v), e1, by rw [decide_eq_true q.1], q.2⟩) fun _ _ q => q)
/-! ### operators -/
theorem wp_neg {i : Int} (q : Q (.int (-i)) e) : WP (negF (.int i)) e Q X := wp_ret q
theorem wp_sub {i j : Int} (q : Q (.int (i - j)) e) : WP (subF (.int i) (.int j)) e Q X := wp_ret q
theorem wp_add {i j : Int} (q : QV (.d (.int (i + j))) e) : WP (addF (.int i) (.int j)) e QV X := wp_ret q
theorem wp_addT {xs ys : List D} (h : xs.length + ys.length ≤ mx) (q : QV (.d (.tup (xs ++ ys))) e) : WP (addF (.tup xs) (.tup ys)) e QV X := ⟨_, e, by show (⟨_, _, decide _⟩ : Out SV) = _; rw [decide_eq_true h], q⟩
theorem wp_addL {xs ys : List D} (h : xs.length + ys.length ≤ mx) (q : QV (.own 0 (xs ++ ys)) e) : WP (addF (.lst xs) (.lst ys)) e QV X := ⟨_, e, by show (⟨_, _, decide _⟩ : Out SV) = _; rw [decide_eq_true h], q⟩
theorem wp_addS {xs ys : Str} (h : xs.length + ys.length ≤ mx) (q : QV (.d (.str (xs ++ ys))) e) : WP (addF (.str xs) (.str ys)) e QV X := ⟨_, e, by show (⟨_, _, decide _⟩ : Out SV) = _; rw [decide_eq_true h], q⟩
theorem wp_mul {i j : Int} (h : mulB i j = true) (q : Q (.int (i * j)) e) : WP (mulF (.int i) (.int j)) e Q X := ⟨_, e, by show (⟨_, _, mulB i j⟩ : Out D) = _; rw [h], q⟩
theorem wp_fdiv {i j : Int} (h : j ≠ 0 ∧ (j.natAbs < 1073741824 ∨ (0 < j ∧ j.natAbs.log2 < 9000))) (q : Q (.int (i.fdiv j)) e) : WP (fdivF (.int i) (.int j)) e Q X := ⟨_, e, by show (⟨_, _, decide _⟩ : Out D) = _; rw [decide_eq_true h], q⟩
theorem wp_mod {i j : Int} (h : j ≠ 0) (q : Q (.int (i.fmod j)) e) : WP (modF (.int i) (.int j)) e Q X := ⟨_, e, by show (⟨_, _, decide _⟩ : Out D) = _; rw [decide_eq_true h], q⟩
theorem wp_pow {i j : Int} (h : 0 ≤ j ∧ j ≤ 1000000 ∧ i.natAbs < 2 ^ 64) (q : Q (.int (i ^ j.toNat)) e) : WP (powF (.int i) (.int j)) e Q X := ⟨_, e, by show (⟨_, _, decide _⟩ : Out D) = _; rw [decide_eq_true h], q⟩
theorem wp_eq {x y : D} (h : (x.shp && y.shp) = true) (q : Q (.bl (x.beq y)) e) : WP (eqF x y) e Q X := ⟨_, e, by show (⟨_, _, _⟩ : Out D) = _; rw [h], q⟩
theorem wp_ne {x y : D} (h : (x.shp && y.shp) = true) (q : Q (.bl (!x.beq y)) e) : WP (neF x y) e Q X := ⟨_, e, by show (⟨_, _, _⟩ : Out D) = _; rw [h], q⟩
theorem wp_eqI {i j : Int} (q : Q (.bl (decide (i = j))) e) : WP (eqF (.int i) (.int j)) e Q X := wp_eq rfl (by
  have z : (D.int i).beq (.int j) = decide (i = j) := by
    show (i == j) = _
    by_cases h : i = j
    · subst h
      simp
    · simp [h]
  rw [z]
  exact q)
theorem wp_neI {i j : Int} (q : Q (.bl (!decide (i = j))) e) : WP (neF (.int i) (.int j)) e Q X := wp_ne rfl (by
  have z : (D.int i).beq (.int j) = decide (i = j) := by
    show (i == j) = _
    by_cases h : i = j
    · subst h
      simp
    · simp [h]
  rw [z]
  exact q)
theorem wp_cmp {p : Int → Int → Bool} {i j : Int} (q : Q (.bl (p i j)) e) : WP (cmpF p (.int i) (.int j)) e Q X := wp_ret q
def nonB : D → Bool
  | .non => true
  | _ => false
theorem wp_is {x : D} (q : Q (.bl (nonB x)) e) : WP (isF x .non) e Q X := by
  cases x <;> exact wp_ret q
theorem wp_isNot {x : D} (q : Q (.bl (!nonB x)) e) : WP (isNotF x .non) e Q X := by
  cases x <;> exact wp_ret q
theorem wp_in {x y : D} {ys : List D} {neg : Bool} (hi : items y = some ys) (h : (flatD x && ys.all flatD) = true) (q : Q (.bl (if neg then !(ys.any fun z => z.beq x) else ys.any fun z => z.beq x)) e) : WP (inF neg x y) e Q X := ⟨_, e, by unfold inF; rw [hi]; show (⟨_, _, _⟩ : Out D) = _; rw [h], q⟩
theorem wp_at {x d : D} {xs : List D} {i : Int} (hi : items x = some xs) (h : atI xs i = some d) (q : Q d e) : WP (atF x (.int i)) e Q X := ⟨.ok d, e, by unfold atF; simp only [hi, h]; rfl, q⟩
theorem wp_chain2 {f g : D → D → M D} {ma mb mc : M D} (h : WP ma e (fun x e1 => WP mb e1 (fun y e2 => WP (tB (f x y)) e2 (fun k e3 => WP (if k = true then bnd mc fun z => g y z else ret (.bl false)) e3 Q X) X) X) X) : WP (chain2 f g ma mb mc) e Q X := wp_bnd (h.imp (fun v e1 q => wp_bnd (q.imp (fun _ _ q => wp_bnd q) fun _ _ q => q)) fun _ _ q => q)
/-- tests -/
def TBP (d : D) (e : Ev) (Q : Bool → Ev → Prop) : Prop := ∃ b, d = .bl b ∧ Q b e
theorem tbP {b : Bool} (q : QB b e) : TBP (.bl b) e QB := ⟨b, rfl, q⟩
theorem wp_tB {m : M D} (h : WP m e (fun d e1 => TBP d e1 QB) X) : WP (tB m) e QB X := wp_bnd (h.imp (fun v e1 ⟨b, eb, q⟩ => by subst eb; exact wp_ret q) fun _ _ q => q)
theorem wp_notT {m : M Bool} (h : WP m e (fun b e1 => QB (!b) e1) X) : WP (notT m) e QB X := wp_bnd (h.imp (fun v e1 q => wp_ret q) fun _ _ q => q)
theorem wp_andT {a b : M Bool} (h : WP a e (fun x e1 => WP (if x = true then b else ret false) e1 QB X) X) : WP (andT a b) e QB X := wp_bnd h
theorem wp_orT {a b : M Bool} (h : WP a e (fun x e1 => WP (if x = true then ret true else b) e1 QB X) X) : WP (orT a b) e QB X := wp_bnd h
theorem wp_iteM {α : Type} {Q : α → Ev → Prop} {t : M Bool} {a b : M α} (h : WP t e (fun x e1 => WP (if x = true then a else b) e1 Q X) X) : WP (iteM t a b) e Q X := wp_bnd h
theorem wp_andE {a b : M D} (h : WP (tB a) e (fun x e1 => WP (if x = true then b else ret (.bl false)) e1 Q X) X) : WP (andE a b) e Q X := wp_bnd h
theorem wp_orE {a b : M D} (h : WP (tB a) e (fun x e1 => WP (if x = true then ret (.bl true) else b) e1 Q X) X) : WP (orE a b) e Q X := wp_bnd h
theorem wp_notE {a : M D} (h : WP (tB a) e (fun x e1 => Q (.bl (!x)) e1) X) : WP (notE a) e Q X := wp_bnd (h.imp (fun v e1 q => wp_ret q) fun _ _ q => q)
theorem wp_ift {α : Type} {Q : α → Ev → Prop} {a b : M α} (h : WP a e Q X) : WP (if true = true then a else b) e Q X := by rw [if_pos rfl]; exact h
theorem wp_iff {α : Type} {Q : α → Ev → Prop} {a b : M α} (h : WP b e Q X) : WP (if false = true then a else b) e Q X := by rw [if_neg (by decide)]; exact h
theorem wp_ifc {α : Type} {Q : α → Ev → Prop} {a b : M α} {c : Bool} (h1 : c = true → WP a e Q X) (h2 : c = false → WP b e Q X) : WP (if c = true then a else b) e Q X := by
  cases c with
  | true => exact wp_ift (h1 rfl)
  | false => exact wp_iff (h2 rfl)
theorem wp_ifT {α : Type} {Q : α → Ev → Prop} {a b : M α} {c : Bool} (hc : c = true) (h : WP a e Q X) : WP (if c = true then a else b) e Q X := by rw [if_pos hc]; exact h
theorem wp_ifF {α : Type} {Q : α → Ev → Prop} {a b : M α} {c : Bool} (hc : c = false) (h : WP b e Q X) : WP (if c = true then a else b) e Q X := by subst hc; exact wp_iff h
/-! ### items, lengths, slices -/
theorem wp_lenV {i t : Nat} {xs : List D} (h : e[i]? = some (some (.own t xs))) (q : Q (.int xs.length) e) : WP (lenV i) e Q X := ⟨.ok _, e, by unfold lenV; rw [h], q⟩
theorem wp_lenD {i : Nat} {d : D} (h : e[i]? = some (some (.d d))) (q : WP (lenF [d]) e Q X) : WP (lenV i) e Q X := by
  obtain ⟨v, e1, h1, h2⟩ := q
  exact ⟨v, e1, by unfold lenV; rw [h]; exact h1, h2⟩
theorem wp_lenT {xs : List D} (q : Q (.int xs.length) e) : WP (lenF [.tup xs]) e Q X := wp_ret q
theorem wp_lenL {xs : List D} (q : Q (.int xs.length) e) : WP (lenF [.lst xs]) e Q X := wp_ret q
theorem wp_lenS {s : Str} (h : s.length ≤ mx) (q : Q (.int s.length) e) : WP (lenF [.str s]) e Q X := ⟨.ok _, e, by show (⟨_, _, decide _⟩ : Out D) = _; rw [decide_eq_true h], q⟩
theorem wp_ixV {i : Nat} {mb : M D} (h : isSome2 e[i]? = true) (q : WP mb e (fun d e1 => WP (atS i d) e1 Q X) X) : WP (ixV i mb) e Q X := by
  obtain ⟨v, e1, h1, h2⟩ := wp_bnd q
  exact ⟨v, e1, by unfold ixV; rw [if_pos h]; exact h1, h2⟩
theorem wp_atS {i t : Nat} {k : Int} {xs : List D} {d : D} (h : e[i]? = some (some (.own t xs))) (ha : atI xs k = some d) (q : Q d e) : WP (atS i (.int k)) e Q X := ⟨.ok d, e, by unfold atS; rw [h]; unfold atF; simp only [items, ha]; rfl, q⟩
theorem wp_atD {i : Nat} {k x : D} (h : e[i]? = some (some (.d x))) (q : WP (atF x k) e Q X) : WP (atS i k) e Q X := by
  obtain ⟨v, e1, h1, h2⟩ := q
  exact ⟨v, e1, by unfold atS; rw [h]; exact h1, h2⟩
theorem wp_slO {m : M D} {lo hi : M (Option Int)} (h : WP m e (fun x e1 => WP lo e1 (fun l e2 => WP hi e2 (fun h e3 => WP (slF x l h) e3 QV X) X) X) X) : WP (slO m lo hi) e QV X := wp_bnd (h.imp (fun v e1 q => wp_bnd (q.imp (fun _ _ q => wp_bnd q) fun _ _ q => q)) fun _ _ q => q)
theorem wp_noPart {QO : Option Int → Ev → Prop} (q : QO none e) : WP noPart e QO X := ⟨.ok none, e, rfl, q⟩
theorem wp_part {QO : Option Int → Ev → Prop} {m : M D} (h : WP m e (fun d e1 => WP (intO d) e1 QO X) X) : WP (part m) e QO X := wp_bnd h
theorem wp_intO {QO : Option Int → Ev → Prop} {i : Int} (q : QO (some i) e) : WP (intO (.int i)) e QO X := ⟨.ok _, e, rfl, q⟩
theorem wp_slT {xs : List D} {lo hi : Option Int} (q : QV (.d (.tup (cutD xs lo hi))) e) : WP (slF (.tup xs) lo hi) e QV X := wp_ret q
theorem wp_slL {xs : List D} {lo hi : Option Int} (q : QV (.own 0 (cutD xs lo hi)) e) : WP (slF (.lst xs) lo hi) e QV X := wp_ret q
/-! ### built-in functions -/
theorem wp_absF {i : Int} (q : Q (.int (if i < 0 then -i else i)) e) : WP (absF [.int i]) e Q X := wp_ret q
theorem wp_intF {i : Int} (q : Q (.int i) e) : WP (intF [.int i]) e Q X := wp_ret q
theorem wp_intB {b : Bool} (q : Q (.int (if b then 1 else 0)) e) : WP (intF [.bl b]) e Q X := wp_ret q
theorem wp_allF {xs : List D} {bs : List Bool} (h : blsOf xs = some bs) (q : Q (.bl (bs.all id)) e) : WP (allF [.lst xs]) e Q X := ⟨.ok _, e, by simp only [allF, h]; rfl, q⟩
theorem wp_anyF {xs : List D} {bs : List Bool} (h : blsOf xs = some bs) (q : Q (.bl (bs.any id)) e) : WP (anyF [.lst xs]) e Q X := ⟨.ok _, e, by simp only [anyF, h]; rfl, q⟩
theorem wp_sumF {xs : List D} {bs : List Int} (h : intsOf xs = some bs) (q : Q (.int bs.sum) e) : WP (sumF [.lst xs]) e Q X := ⟨.ok _, e, by simp only [sumF, h]; rfl, q⟩
theorem all_bls {b : D → Bool} {xs : List D} : ((xs.map b).all id) = xs.all b := by
  induction xs with
  | nil => rfl
  | cons x r ih => simp
theorem any_bls {b : D → Bool} {xs : List D} : ((xs.map b).any id) = xs.any b := by
  induction xs with
  | nil => rfl
  | cons x r ih => simp
theorem wp_allM {xs : List D} {b : D → Bool} (q : Q (.bl (xs.all b)) e) : WP (allF [.lst (xs.map fun x => .bl (b x))]) e Q X := wp_allF (bls_map b xs) (by rw [all_bls]; exact q)
theorem wp_anyM {xs : List D} {b : D → Bool} (q : Q (.bl (xs.any b)) e) : WP (anyF [.lst (xs.map fun x => .bl (b x))]) e Q X := wp_anyF (bls_map b xs) (by rw [any_bls]; exact q)
theorem wp_tupT {xs : List D} (q : Q (.tup xs) e) : WP (tupleF [.tup xs]) e Q X := wp_ret q
theorem wp_tupL {xs : List D} (q : Q (.tup xs) e) : WP (tupleF [.lst xs]) e Q X := wp_ret q
theorem wp_listT {xs : List D} (q : QV (.own 0 xs) e) : WP (listF [.tup xs]) e QV X := wp_ret q
theorem wp_listL {xs : List D} (q : QV (.own 0 xs) e) : WP (listF [.lst xs]) e QV X := wp_ret q
theorem wp_max {i j : Int} (q : Q (.int (if j > i then j else i)) e) : WP (maxF [.int i, .int j]) e Q X := wp_ret q
theorem wp_min {i j : Int} (q : Q (.int (if j < i then j else i)) e) : WP (minF [.int i, .int j]) e Q X := wp_ret q
theorem wp_str {i : Int} (h : i.natAbs.log2 < 1920) (q : Q (.str (toString i)) e) : WP (strF [.int i]) e Q X := ⟨.ok _, e, by show (⟨_, _, decide _⟩ : Out D) = _; rw [decide_eq_true h], q⟩
theorem wp_sort {xs : List D} (h : sortOk xs = true) (q : QV (.own 0 (sortD xs)) e) : WP (sortF [.lst xs]) e QV X := ⟨.ok _, e, by show (⟨_, _, _⟩ : Out SV) = _; rw [h], q⟩
def PlainP (d : D) (P : Prop) : Prop := plainD d = true ∧ P
theorem plainP {d : D} {P : Prop} (h : plainD d = true) (q : P) : PlainP d P := ⟨h, q⟩
theorem wp_isi {t : TN} {m : M D} (h : WP m e (fun d e1 => PlainP d (Q (.bl (isT t d)) e1)) X) : WP (isiE t m) e Q X := wp_bnd (h.imp (fun v e1 q => by
  unfold isiF
  rw [if_pos q.1]
  exact wp_ret q.2) fun _ _ q => q)
theorem wp_isi2 {t u : TN} {m : M D} (h : WP m e (fun d e1 => PlainP d (Q (.bl (isT t d || isT u d)) e1)) X) : WP (isiE2 t u m) e Q X := wp_bnd (h.imp (fun v e1 q => by
  unfold isiF2
  rw [if_pos q.1]
  exact wp_ret q.2) fun _ _ q => q)
/-! ### iterables -/
def ItemsP (d : D) (e : Ev) (Q : List D → Ev → Prop) : Prop := ∃ xs, items d = some xs ∧ Q xs e
theorem itemsT {xs : List D} (q : QL xs e) : ItemsP (.tup xs) e QL := ⟨xs, rfl, q⟩
theorem itemsL {xs : List D} (q : QL xs e) : ItemsP (.lst xs) e QL := ⟨xs, rfl, q⟩
theorem wp_seqI {m : M D} (h : WP m e (fun d e1 => ItemsP d e1 QL) X) : WP (seqI m) e QL X := wp_bnd (h.imp (fun v e1 ⟨xs, h1, q⟩ => by
  show WP (match items v with
    | some xs => ret xs
    | none => bad) e1 QL X
  rw [h1]
  exact wp_ret q) fun _ _ q => q)
theorem wp_range {n : Int} (h : -(2 ^ 62) ≤ n ∧ n < 2 ^ 62) (q : QL ((List.range n.toNat).map fun i => .int (0 + (i : Nat))) e) : WP (range1F [.int n]) e QL X := ⟨.ok _, e, by show (⟨_, _, decide _⟩ : Out (List D)) = _; rw [decide_eq_true h], q⟩
theorem wp_range2 {a b : Int} (h : -(2 ^ 62) ≤ a ∧ a < 2 ^ 62 ∧ -(2 ^ 62) ≤ b ∧ b < 2 ^ 62) (q : QL ((List.range (b - a).toNat).map fun i => .int (a + (i : Nat))) e) : WP (range2F [.int a, .int b]) e QL X := ⟨.ok _, e, by show (⟨_, _, decide _⟩ : Out (List D)) = _; rw [decide_eq_true h], q⟩
theorem wp_zip {x y : D} {xs ys : List D} (h1 : items x = some xs) (h2 : items y = some ys) (q : QL (zipD xs ys) e) : WP (zipF [x, y]) e QL X := ⟨.ok _, e, by unfold zipF; simp only [h1, h2]; rfl, q⟩
theorem wp_enum {x : D} {xs : List D} (h1 : items x = some xs) (q : QL (enumD 0 xs) e) : WP (enumF [x]) e QL X := ⟨.ok _, e, by unfold enumF; simp only [h1]; rfl, q⟩
theorem wp_zipL {xs ys : List D} (q : QL (zipD xs ys) e) : WP (zipLF [.lst xs, .lst ys]) e QL X := wp_ret q
theorem wp_isX {a0 : Addr} {b : Bool} {i : Nat} (h : e[i]? = some (some (.d (.obj a0)))) (q : Q (.bl b) e) : WP (isXE a0 b (varE i)) e Q X := wp_bnd (wp_var h (by
  show WP (if a0 = a0 then ret (.bl b) else bad) e Q X
  rw [if_pos rfl]
  exact wp_ret q))
def JoinP (mb : M D) (x : D) (e : Ev) (Q : D → Ev → Prop) (X : Exc → Ev → Prop) : Prop := ∃ a, x = .str a ∧ WP mb e (fun y e1 => WP (joinF a y) e1 Q X) X
theorem joinP {mb : M D} {a : Str} (h : WP mb e (fun y e1 => WP (joinF a y) e1 Q X) X) : JoinP mb (.str a) e Q X := ⟨a, rfl, h⟩
theorem wp_join {ma mb : M D} (h : WP ma e (fun x e1 => JoinP mb x e1 Q X) X) : WP (joinE ma mb) e Q X := wp_bnd (h.imp (fun v e1 ⟨a, ea, q⟩ => by subst ea; exact wp_bnd q) fun _ _ q => q)
theorem wp_joinF {a : Str} {y : D} {ds : List D} {ys : List Str} (h1 : items y = some ds) (h2 : strsOf ds = some ys) (h3 : (ys.map (·.length)).sum + ys.length * a.length ≤ 16777216) (q : Q (.str (Txt.join a ys)) e) : WP (joinF a y) e Q X := ⟨.ok _, e, by unfold joinF; simp only [h1, h2]; rw [decide_eq_true h3], q⟩
def SplitP (mb : M D) (x : D) (e : Ev) (Q : SV → Ev → Prop) (X : Exc → Ev → Prop) : Prop := ∃ a, x = .str a ∧ WP mb e (fun y e1 => WP (splitF a y) e1 Q X) X
theorem splitP {mb : M D} {a : Str} (h : WP mb e (fun y e1 => WP (splitF a y) e1 QV X) X) : SplitP mb (.str a) e QV X := ⟨a, rfl, h⟩
theorem wp_split {ma mb : M D} (h : WP ma e (fun x e1 => SplitP mb x e1 QV X) X) : WP (splitE ma mb) e QV X := wp_bnd (h.imp (fun v e1 ⟨a, ea, q⟩ => by subst ea; exact wp_bnd q) fun _ _ q => q)
theorem wp_splitF {a b : Str} (h : (!(b.length == 0) && decide (a.length + 2 ≤ mx)) = true) (q : QV (.own 0 ((Txt.split a b).map .str)) e) : WP (splitF a (.str b)) e QV X := ⟨.ok _, e, by show (⟨_, _, _⟩ : Out SV) = _; rw [h], q⟩
/-! ### calls -/
theorem wp_nilV (q : QA [] e) : WP nilV e QA X := ⟨.ok [], e, rfl, q⟩
theorem wp_consV {m : M D} {r : M (List AV)} (h : WP m e (fun x e1 => WP r e1 (fun xs e2 => QA (.v x :: xs) e2) X) X) : WP (consV m r) e QA X := wp_bnd (h.imp (fun v e1 q => wp_bnd (q.imp (fun _ _ q => wp_ret q) fun _ _ q => q)) fun _ _ q => q)
theorem wp_consL {i : Nat} {r : M (List AV)} (h : isSome2 e[i]? = true) (q : WP r e (fun xs e2 => QA (.s i :: xs) e2) X) : WP (consL i r) e QA X := by
  obtain ⟨v, e1, h1, h2⟩ := wp_bnd (q.imp (fun xs e2 q => wp_ret (x := AV.s i :: xs) q) fun _ _ q => q)
  refine ⟨v, e1, ?_, h2⟩
  unfold consL
  cases z : e[i]? with
  | none => rw [z] at h; cases h
  | some o =>
    cases o with
    | none => rw [z] at h; cases h
    | some u => exact h1
/-- the call itself, its arguments evaluated -/
def CP (f : Fn) (as : List AV) (e : Ev) (Q : SV → Ev → Prop) (X : Exc → Ev → Prop) : Prop := WP (fun env => match mkArgs env as with
  | none => ⟨.error default, env, false⟩
  | some args => (match lentS env as with
    | [] => ⟨(f args).val, env, (f args).good⟩
    | [i] => ⟨(f args).val, putBack (f args).out env [i], (f args).good⟩
    | _ => ⟨.error default, env, false⟩)) e Q X
theorem wp_call {f : Fn} {m : M (List AV)} (h : WP m e (fun as e1 => CP f as e1 QV X) X) : WP (callM f m) e QV X := wp_bnd h
variable {f : Fn} {v : SV} {x : Exc} {out ys xs : List D} {a b c d : D} {i t : Nat}
theorem cp_gen {as : List AV} {args : List SV} {w : Except Exc SV} (h1 : mkArgs e as = some args) (h2 : lentS e as = []) (h : f args = ⟨w, out, true⟩) (q : (match w with
  | .ok v => QV v e
  | .error x => X x e)) : CP f as e QV X := ⟨w, e, by simp only [h1, h2, h], by cases w <;> exact q⟩
theorem cp_lent {as : List AV} {args : List SV} {w : Except Exc SV} (h1 : mkArgs e as = some args) (h2 : lentS e as = [i]) (h3 : e[i]? = some (some (.own t xs))) (h : f args = ⟨w, out, true⟩) (q : (match w with
  | .ok v => QV v (e.set i (some (.own t out)))
  | .error x => X x (e.set i (some (.own t out))))) : CP f as e QV X := ⟨w, e.set i (some (.own t out)), by simp only [h1, h2, h, putBack, h3], by cases w <;> exact q⟩
theorem cp0 (h : f [] = ⟨.ok v, out, true⟩) (q : QV v e) : CP f [] e QV X := cp_gen rfl rfl h q
theorem cp1 (h : f [.d a] = ⟨.ok v, out, true⟩) (q : QV v e) : CP f [.v a] e QV X := cp_gen rfl rfl h q
theorem cp2 (h : f [.d a, .d b] = ⟨.ok v, out, true⟩) (q : QV v e) : CP f [.v a, .v b] e QV X := cp_gen rfl rfl h q
theorem cp3 (h : f [.d a, .d b, .d c] = ⟨.ok v, out, true⟩) (q : QV v e) : CP f [.v a, .v b, .v c] e QV X := cp_gen rfl rfl h q
theorem cp4 (h : f [.d a, .d b, .d c, .d d] = ⟨.ok v, out, true⟩) (q : QV v e) : CP f [.v a, .v b, .v c, .v d] e QV X := cp_gen rfl rfl h q
theorem cx1 (h : f [.d a] = ⟨.error x, out, true⟩) (q : X x e) : CP f [.v a] e QV X := cp_gen rfl rfl h q
theorem cx2 (h : f [.d a, .d b] = ⟨.error x, out, true⟩) (q : X x e) : CP f [.v a, .v b] e QV X := cp_gen rfl rfl h q
theorem cx3 (h : f [.d a, .d b, .d c] = ⟨.error x, out, true⟩) (q : X x e) : CP f [.v a, .v b, .v c] e QV X := cp_gen rfl rfl h q
theorem cx4 (h : f [.d a, .d b, .d c, .d d] = ⟨.error x, out, true⟩) (q : X x e) : CP f [.v a, .v b, .v c, .v d] e QV X := cp_gen rfl rfl h q
/-- the first argument lent -/
theorem cs1 (h3 : e[i]? = some (some (.own t xs))) (h : f [.own 1 xs] = ⟨.ok v, ys, true⟩) (q : QV v (e.set i (some (.own t ys)))) : CP f [.s i] e QV X := cp_lent (t := t) (by simp only [mkArgs, h3, Option.map]) (by simp only [lentS, h3]) h3 h q
theorem cs2 (h3 : e[i]? = some (some (.own t xs))) (h : f [.own 1 xs, .d a] = ⟨.ok v, ys, true⟩) (q : QV v (e.set i (some (.own t ys)))) : CP f [.s i, .v a] e QV X := cp_lent (t := t) (by simp only [mkArgs, h3, Option.map]) (by simp only [lentS, h3]) h3 h q
theorem cs3 (h3 : e[i]? = some (some (.own t xs))) (h : f [.own 1 xs, .d a, .d b] = ⟨.ok v, ys, true⟩) (q : QV v (e.set i (some (.own t ys)))) : CP f [.s i, .v a, .v b] e QV X := cp_lent (t := t) (by simp only [mkArgs, h3, Option.map]) (by simp only [lentS, h3]) h3 h q
theorem cs4 (h3 : e[i]? = some (some (.own t xs))) (h : f [.own 1 xs, .d a, .d b, .d c] = ⟨.ok v, ys, true⟩) (q : QV v (e.set i (some (.own t ys)))) : CP f [.s i, .v a, .v b, .v c] e QV X := cp_lent (t := t) (by simp only [mkArgs, h3, Option.map]) (by simp only [lentS, h3]) h3 h q
/-! ### comprehensions -/
def LC (own : List Nat) (tg : MT) (tt : M Bool) (me : M D) (xs : List D) (e : Ev) (Q : SV → Ev → Prop) (X : Exc → Ev → Prop) : Prop := WP (lcF own tg tt me xs) e Q X
variable {own : List Nat} {tg : MT} {tt : M Bool} {me : M D}
theorem wp_lc {it : M (List D)} (h : WP it e (fun xs e1 => LC own tg tt me xs e1 QV X) X) : WP (lcO own it tg tt me) e QV X := wp_bnd h
/-- each item by f; the own names wiped, the slots are as before -/
theorem lc_f (f : D → Option D) (hx : xs.length ≤ mx) (st : ∀ x ∈ xs, ∃ e1, tg x (wipeE own e) = some e1 ∧ WP tt e1 (fun b e2 => if b = true then ∃ d, f x = some d ∧ WP me e2 (fun d' e3 => d' = d ∧ wipeE own e3 = wipeE own e) (fun _ _ => False) else f x = none ∧ wipeE own e2 = wipeE own e) (fun _ _ => False))
    (q : QV (.own 0 (xs.filterMap f)) (restE own e (wipeE own e))) : LC own tg tt me xs e QV X := by
  have h := lc_pure (own := own) (tg := tg) (tt := tt) (me := me) (e := e) (e1 := e) (it := ret xs) (xs := xs) (g := true) f rfl rfl hx fun x hm => by
    obtain ⟨a1, h1, v, a2, h2, h3⟩ := st x hm
    cases v with
    | error _ => exact h3.elim
    | ok b =>
      cases b with
      | false =>
        have h3' : f x = none ∧ wipeE own a2 = wipeE own e := by
          simpa using h3
        exact ⟨a1, a2, a2, h1, .inl ⟨h3'.1, h2, h3'.2⟩⟩
      | true =>
        have h3' : ∃ d, f x = some d ∧ WP me a2 (fun d' e3 => d' = d ∧ wipeE own e3 = wipeE own e) (fun _ _ => False) := by
          simpa using h3
        obtain ⟨d, hd, w, a3, h4, h5⟩ := h3'
        cases w with
        | error _ => exact h5.elim
        | ok d' =>
          obtain ⟨rfl, h5⟩ := h5
          exact ⟨a1, a2, a3, h1, .inr ⟨d', hd, h2, h4, h5⟩⟩
  have h2 : lcF own tg tt me xs e = ⟨.ok (.own 0 (xs.filterMap f)), restE own e (wipeE own e), true⟩ := (bnd_g (m := ret xs) (k := fun xs => lcF own tg tt me xs) (e := e) (e1 := e) (g := true) rfl rfl).symm.trans h
  exact ⟨_, _, h2, q⟩
theorem lc_m (f : D → D) (hx : xs.length ≤ mx) (st : ∀ x ∈ xs, ∃ e1, tg x (wipeE own e) = some e1 ∧ WP me e1 (fun d' e3 => d' = f x ∧ wipeE own e3 = wipeE own e) (fun _ _ => False))
    (q : QV (.own 0 (xs.map f)) (restE own e (wipeE own e))) : LC own tg yesT me xs e QV X := by
  refine lc_f (fun x => some (f x)) hx (fun x hm => ?_) ?_
  · obtain ⟨e1, h1, h2⟩ := st x hm
    refine ⟨e1, h1, wp_yes ?_⟩
    rw [if_pos rfl]
    exact ⟨f x, rfl, h2⟩
  · have z : xs.filterMap (fun x => some (f x)) = xs.map f := by
      clear st q hx
      induction xs with
      | nil => rfl
      | cons x r ih => simp
    rw [z]
    exact q
/-- a comprehension that is lent something: by an invariant -/
theorem lc_inv (I : Nat → Ev → List D → Prop) (hx : xs.length ≤ mx) (h0 : I 0 (wipeE own e) [])
    (st : ∀ i x e ys, xs[i]? = some x → I i e ys → ∃ e1, tg x e = some e1 ∧ WP me e1 (fun d e3 => I (i + 1) (wipeE own e3) (ys ++ [d])) (fun _ _ => False))
    (q : ∀ e2 ys, I xs.length e2 ys → ys.length = xs.length → QV (.own 0 ys) (restE own e e2)) : LC own tg yesT me xs e QV X := by
  have key : ∀ (r acc : List D) (k : Nat) (e0 : Ev), (∀ j, r[j]? = xs[k + j]?) → acc.length = k → k + r.length = xs.length → I k (wipeE own e0) acc → ∃ e4 ys, lcL own tg yesT me r acc e0 = ⟨.ok ys, e4, true⟩ ∧ I xs.length (wipeE own e4) ys ∧ ys.length = xs.length := by
    intro r
    induction r with
    | nil =>
      intro acc k e0 hr hk hl hi
      have : k = xs.length := by simpa using hl
      subst this
      exact ⟨e0, acc, rfl, hi, hk⟩
    | cons x r ih =>
      intro acc k e0 hr hk hl hi
      have hx0 : xs[k]? = some x := by
        have := hr 0
        simpa using this.symm
      obtain ⟨e1, h1, w, e3, h2, h3⟩ := st k x _ acc hx0 hi
      cases w with
      | error _ => exact h3.elim
      | ok d =>
        obtain ⟨e4, ys, h4, h5, h6⟩ := ih (acc ++ [d]) (k + 1) e3 (fun j => by
          have := hr (j + 1)
          rw [List.getElem?_cons_succ] at this
          rw [this]
          congr 1
          omega) (by rw [List.length_append, hk]; rfl) (by rw [List.length_cons] at hl; omega) h3
        refine ⟨e4, ys, ?_, h5, h6⟩
        rw [lcL_take h1 rfl h2 (by rw [List.length_cons] at hl; omega)]
        exact h4
  obtain ⟨e4, ys, h1, h2, h3⟩ := key xs [] 0 (wipeE own e) (fun j => by rw [Nat.zero_add]) rfl (by simp) (by rw [wipe_idem]; exact h0)
  refine ⟨.ok (.own 0 ys), restE own e e4, ?_, ?_⟩
  · unfold lcF
    rw [h1]
  · have := q _ ys h2 h3
    rw [rest_wipe]
    exact this
end
section
variable {e e1 e2 : Ev} {Q : Fl → Ev → Prop}
/-! ### statements -/
theorem ws_next (q : Q .next e) : WS nextS e Q := ⟨.next, e, rfl, q⟩
def SeqP (b : MS) (f : Fl) (e : Ev) (Q : Fl → Ev → Prop) : Prop := match f with
  | .next => WS b e Q
  | f => Q f e
theorem seq_n {b : MS} (h : WS b e Q) : SeqP b .next e Q := h
theorem seq_r {b : MS} {v : SV} (h : Q (.ret v) e) : SeqP b (.ret v) e Q := h
theorem seq_x {b : MS} {v : Exc} (h : Q (.exc v) e) : SeqP b (.exc v) e Q := h
theorem ws_seq {a b : MS} (h : WS a e (fun f e1 => SeqP b f e1 Q)) : WS (seqS a b) e Q := by
  obtain ⟨f, e1, h1, h2⟩ := h
  cases f with
  | next =>
    obtain ⟨f2, e2, h3, h4⟩ := h2
    exact ⟨f2, e2, by rw [seqS_g h1 rfl, h3], h4⟩
  | brk => exact ⟨.brk, e1, by unfold seqS; rw [h1], h2⟩
  | cont => exact ⟨.cont, e1, by unfold seqS; rw [h1], h2⟩
  | ret v => exact ⟨.ret v, e1, by unfold seqS; rw [h1], h2⟩
  | exc v => exact ⟨.exc v, e1, by unfold seqS; rw [h1], h2⟩
theorem ws_asg {i : Nat} {m : M SV} (h : WP m e (fun v e1 => Q .next (e1.set i (some v))) (xS Q)) : WS (asgS i m) e Q := ws_bnd (h.imp (fun v e1 q => ⟨.next, _, rfl, q⟩) fun _ _ q => q)
def AsgP (t : MT) (d : D) (e : Ev) (Q : Fl → Ev → Prop) : Prop := ∃ e2, t d e = some e2 ∧ Q .next e2
theorem asgP {t : MT} {d : D} (h : t d e = some e1) (q : Q .next e1) : AsgP t d e Q := ⟨e1, h, q⟩
theorem ws_asgT {t : MT} {m : M D} (h : WP m e (fun d e1 => AsgP t d e1 Q) (xS Q)) : WS (asgT t m) e Q := ws_bnd (h.imp (fun v e1 ⟨e2, h1, q⟩ => ⟨.next, e2, by simp only [h1], q⟩) fun _ _ q => q)
def ParP (ds : List D) (R : D → D → Prop) : Prop := ∃ a b, ds = [a, b] ∧ R a b
theorem parP {a b : D} {R : D → D → Prop} (q : R a b) : ParP [a, b] R := ⟨a, b, rfl, q⟩
def Par3P (ds : List D) (R : D → D → D → Prop) : Prop := ∃ a b c, ds = [a, b, c] ∧ R a b c
theorem par3P {a b c : D} {R : D → D → D → Prop} (q : R a b c) : Par3P [a, b, c] R := ⟨a, b, c, rfl, q⟩
theorem ws_par {i j : Nat} {m : M (List D)} (h : WP m e (fun ds e1 => ParP ds fun a b => Q .next ((e1.set i (some (.d a))).set j (some (.d b)))) (xS Q)) : WS (parS i j m) e Q := ws_bnd (h.imp (fun v e1 ⟨a, b, h1, q⟩ => by subst h1; exact ⟨.next, _, rfl, q⟩) fun _ _ q => q)
theorem ws_par3 {i j l : Nat} {m : M (List D)} (h : WP m e (fun ds e1 => Par3P ds fun a b c => Q .next (((e1.set i (some (.d a))).set j (some (.d b))).set l (some (.d c)))) (xS Q)) : WS (par3S i j l m) e Q := ws_bnd (h.imp (fun v e1 ⟨a, b, c, h1, q⟩ => by subst h1; exact ⟨.next, _, rfl, q⟩) fun _ _ q => q)
theorem ws_parO {i j : Nat} {ma mb : M SV} (h : WP ma e (fun u e1 => WP mb e1 (fun v e2 => Q .next ((e2.set i (some u)).set j (some v))) (xS Q)) (xS Q)) : WS (parO i j ma mb) e Q := ws_bnd (h.imp (fun u e1 q => ws_bnd (q.imp (fun v e2 q => ⟨.next, _, rfl, q⟩) fun _ _ q => q)) fun _ _ q => q)
theorem ws_ret {m : M SV} (h : WP m e (fun v e1 => Q (.ret v) e1) (xS Q)) : WS (retS m) e Q := ws_bnd (h.imp (fun v e1 q => ⟨.ret v, e1, rfl, q⟩) fun _ _ q => q)
theorem ws_retN (q : Q (.ret (.d .non)) e) : WS retNS e Q := ⟨_, e, rfl, q⟩
theorem ws_drop {m : M SV} (h : WP m e (fun v e1 => Q .next e1) (xS Q)) : WS (dropS m) e Q := ws_bnd (h.imp (fun v e1 q => ⟨.next, e1, rfl, q⟩) fun _ _ q => q)
theorem ws_brk (q : Q .brk e) : WS brkS e Q := ⟨_, e, rfl, q⟩
theorem ws_cont (q : Q .cont e) : WS contS e Q := ⟨_, e, rfl, q⟩
theorem ws_raise {nm : Str} (q : Q (.exc ⟨nm, none⟩) e) : WS (raiseS nm) e Q := ⟨_, e, rfl, q⟩
theorem ws_if {t : M Bool} {a b : MS} (h : WP t e (fun c e1 => WS (if c = true then a else b) e1 Q) (xS Q)) : WS (ifS t a b) e Q := ws_bnd h
theorem ws_ift {a b : MS} (h : WS a e Q) : WS (if true = true then a else b) e Q := by rw [if_pos rfl]; exact h
theorem ws_iff {a b : MS} (h : WS b e Q) : WS (if false = true then a else b) e Q := by rw [if_neg (by decide)]; exact h
theorem ws_ifT {a b : MS} {c : Bool} (hc : c = true) (h : WS a e Q) : WS (if c = true then a else b) e Q := by rw [if_pos hc]; exact h
theorem ws_ifF {a b : MS} {c : Bool} (hc : c = false) (h : WS b e Q) : WS (if c = true then a else b) e Q := by subst hc; exact ws_iff h
theorem ws_ifc {a b : MS} {c : Bool} (h1 : c = true → WS a e Q) (h2 : c = false → WS b e Q) : WS (if c = true then a else b) e Q := by
  cases c with
  | true => exact ws_ift (h1 rfl)
  | false => exact ws_iff (h2 rfl)
def SomeP (i : Nat) (e : Ev) (P : Prop) : Prop := isSome2 e[i]? = true ∧ P
theorem someP {i : Nat} {P : Prop} (h : isSome2 e[i]? = true) (q : P) : SomeP i e P := ⟨h, q⟩
theorem ws_put {i : Nat} {mi me : M D} (h : WP me e (fun d e1 => SomeP i e1 (WP mi e1 (fun k e2 => WS (putAt i d k) e2 Q) (xS Q))) (xS Q)) : WS (putS i mi me) e Q := ws_bnd (h.imp (fun d e1 ⟨h1, q⟩ => by
  obtain ⟨f, e2, h2, h3⟩ := ws_bnd q
  exact ⟨f, e2, by show (if isSome2 e1[i]? = true then bndS mi (putAt i d) e1 else _) = _; rw [if_pos h1]; exact h2, h3⟩) fun _ _ q => q)
theorem ws_putAt {i t j : Nat} {k : Int} {d : D} {xs : List D} (h : e[i]? = some (some (.own t xs))) (hk : ixN xs.length k = some j) (q : Q .next (e.set i (some (.own t (xs.set j d))))) : WS (putAt i d (.int k)) e Q := ⟨.next, _, by unfold putAt; simp only [h, hk], q⟩
def AppP (i : Nat) (d : D) (e : Ev) (Q : Fl → Ev → Prop) : Prop := ∃ t xs, e[i]? = some (some (.own t xs)) ∧ xs.length < mx ∧ Q .next (e.set i (some (.own t (xs ++ [d]))))
theorem appP {i t : Nat} {d : D} {xs : List D} (h : e[i]? = some (some (.own t xs))) (hl : xs.length < mx) (q : Q .next (e.set i (some (.own t (xs ++ [d]))))) : AppP i d e Q := ⟨t, xs, h, hl, q⟩
theorem ws_app {i : Nat} {me : M D} (h0 : isOwn e[i]? = true) (h : WP me e (fun d e1 => AppP i d e1 Q) (xS Q)) : WS (appS i me) e Q := by
  obtain ⟨f, e2, h2, h3⟩ := ws_bnd (k := appAt i) (h.imp (fun d e1 ⟨t, xs, h1, h2, q⟩ => ⟨.next, _, by unfold appAt; simp only [h1, decide_eq_true h2], q⟩) fun _ _ q => q)
  exact ⟨f, e2, by unfold appS; rw [if_pos h0]; exact h2, h3⟩
/-! loops -/
theorem ws_for {it : M (List D)} {tg : MT} {b : MS} (h : WP it e (fun xs e1 => WS (forL tg b xs) e1 Q) (xS Q)) : WS (forS it tg b) e Q := ws_bnd h
theorem ws_for0 {tg : MT} {b : MS} (q : Q .next e) : WS (forL tg b []) e Q := ⟨.next, e, rfl, q⟩
def ForP (tg : MT) (b : MS) (r : List D) (f : Fl) (e : Ev) (Q : Fl → Ev → Prop) : Prop := match f with
  | .next => WS (forL tg b r) e Q
  | .cont => WS (forL tg b r) e Q
  | .brk => Q .next e
  | .ret v => Q (.ret v) e
  | .exc x => Q (.exc x) e
theorem forP_n {tg : MT} {b : MS} {r : List D} (h : WS (forL tg b r) e Q) : ForP tg b r .next e Q := h
theorem forP_r {tg : MT} {b : MS} {r : List D} {v : SV} (h : Q (.ret v) e) : ForP tg b r (.ret v) e Q := h
theorem ws_forC {tg : MT} {b : MS} {d : D} {r : List D} (ht : tg d e = some e1) (h : WS b e1 (fun f e2 => ForP tg b r f e2 Q)) : WS (forL tg b (d :: r)) e Q := by
  obtain ⟨f, e2, h1, h2⟩ := h
  have go : ∀ {f0 : Fl}, WS (forL tg b r) e2 Q → (f0 = .next ∨ f0 = .cont) → b e1 = ⟨f0, e2, true⟩ → WS (forL tg b (d :: r)) e Q := fun {f0} ⟨f3, e3, h3, h4⟩ hf hb => by
    refine ⟨f3, e3, ?_, h4⟩
    rw [forL]
    rcases hf with z | z <;> subst z <;> simp only [ht, hb, h3, Bool.and_self]
  cases f with
  | next => exact go h2 (.inl rfl) h1
  | cont => exact go h2 (.inr rfl) h1
  | brk => exact ⟨.next, e2, by rw [forL]; simp only [ht, h1], h2⟩
  | ret v => exact ⟨.ret v, e2, by rw [forL]; simp only [ht, h1], h2⟩
  | exc v => exact ⟨.exc v, e2, by rw [forL]; simp only [ht, h1], h2⟩
/-- behind a loop's turn: J for the next turn, or out -/
def LoopP (J : Ev → Prop) (Q : Fl → Ev → Prop) (f : Fl) (e : Ev) : Prop := match f with
  | .next => J e
  | .cont => J e
  | .brk => Q .next e
  | .ret v => Q (.ret v) e
  | .exc x => Q (.exc x) e
theorem lp_n {J : Ev → Prop} (h : J e) : LoopP J Q .next e := h
theorem lp_c {J : Ev → Prop} (h : J e) : LoopP J Q .cont e := h
theorem lp_b {J : Ev → Prop} (h : Q .next e) : LoopP J Q .brk e := h
theorem lp_r {J : Ev → Prop} {v : SV} (h : Q (.ret v) e) : LoopP J Q (.ret v) e := h
theorem lp_x {J : Ev → Prop} {x : Exc} (h : Q (.exc x) e) : LoopP J Q (.exc x) e := h
/-- a loop by an invariant, with ways out -/
theorem ws_forI {tg : MT} {b : MS} {xs : List D} (I : Nat → Ev → Prop) (h0 : I 0 e) (st : ∀ i d e, xs[i]? = some d → I i e → ∃ e1, tg d e = some e1 ∧ WS b e1 (LoopP (I (i + 1)) Q)) (q : ∀ e, I xs.length e → Q .next e) : WS (forL tg b xs) e Q := by
  have key : ∀ (r : List D) (k : Nat) (e0 : Ev), (∀ j, r[j]? = xs[k + j]?) → k + r.length = xs.length → I k e0 → WS (forL tg b r) e0 Q := by
    intro r
    induction r with
    | nil =>
      intro k e0 hr hl hi
      have : k = xs.length := by simpa using hl
      subst this
      exact ws_for0 (q _ hi)
    | cons x r ih =>
      intro k e0 hr hl hi
      have hx0 : xs[k]? = some x := by
        have := hr 0
        simpa using this.symm
      obtain ⟨e1, h1, h2⟩ := st k x e0 hx0 hi
      have nx : ∀ e2, I (k + 1) e2 → WS (forL tg b r) e2 Q := fun e2 h => ih (k + 1) e2 (fun j => by
          have := hr (j + 1)
          rw [List.getElem?_cons_succ] at this
          rw [this]
          congr 1
          omega) (by rw [List.length_cons] at hl; omega) h
      refine ws_forC h1 (h2.imp fun f e2 h => ?_)
      cases f with
      | next => exact nx e2 h
      | cont => exact nx e2 h
      | brk => exact h
      | ret v => exact h
      | exc v => exact h
  exact key xs 0 e (fun j => by rw [Nat.zero_add]) (by simp) h0
theorem ws_while {fuel : Ev → Nat} {t : M Bool} {b : MS} (h : WS (whileL t b (fuel e)) e Q) : WS (whileS fuel t b) e Q := h
def WhP (t : M Bool) (b : MS) (n : Nat) (f : Fl) (e : Ev) (Q : Fl → Ev → Prop) : Prop := match f with
  | .next => WS (whileL t b n) e Q
  | .cont => WS (whileL t b n) e Q
  | .brk => Q .next e
  | .ret v => Q (.ret v) e
  | .exc x => Q (.exc x) e
theorem ws_whileC {t : M Bool} {b : MS} {n : Nat} (h : WP t e (fun c e1 => if c = true then WS b e1 (fun f e2 => WhP t b n f e2 Q) else Q .next e1) (xS Q)) : WS (whileL t b (n + 1)) e Q := by
  obtain ⟨v, e1, h1, h2⟩ := h
  cases v with
  | error x => exact ⟨.exc x, e1, by rw [whileL]; simp only [h1], h2⟩
  | ok c =>
    cases c with
    | false =>
      have h2' : Q .next e1 := by simpa using h2
      exact ⟨.next, e1, by rw [whileL]; simp only [h1], h2'⟩
    | true =>
      have h2' : WS b e1 (fun f e2 => WhP t b n f e2 Q) := by simpa using h2
      obtain ⟨f, e2, h3, h4⟩ := h2'
      have go : ∀ {f0 : Fl}, WS (whileL t b n) e2 Q → (f0 = .next ∨ f0 = .cont) → b e1 = ⟨f0, e2, true⟩ → WS (whileL t b (n + 1)) e Q := fun {f0} ⟨f3, e3, h3, h4⟩ hf hb => by
        refine ⟨f3, e3, ?_, h4⟩
        rw [whileL]
        rcases hf with z | z <;> subst z <;> simp only [h1, hb, h3, Bool.and_self]
      cases f with
      | next => exact go h4 (.inl rfl) h3
      | cont => exact go h4 (.inr rfl) h3
      | brk => exact ⟨.next, e2, by rw [whileL]; simp only [h1, h3, Bool.and_self], h4⟩
      | ret v => exact ⟨.ret v, e2, by rw [whileL]; simp only [h1, h3, Bool.and_self], h4⟩
      | exc v => exact ⟨.exc v, e2, by rw [whileL]; simp only [h1, h3, Bool.and_self], h4⟩
/-- a while by an invariant and a measure: what holds, how far at most -/
theorem ws_whileI {t : M Bool} {b : MS} {fuel : Ev → Nat} (I : Nat → Ev → Prop) (h0 : ∃ k, k < fuel e ∧ I k e) (st : ∀ k e, I k e → WP t e (fun c e1 => if c = true then WS b e1 (LoopP (fun e2 => ∃ j, j < k ∧ I j e2) Q) else Q .next e1) (xS Q)) : WS (whileS fuel t b) e Q := by
  have key : ∀ (n k : Nat) (e0 : Ev), k < n → I k e0 → WS (whileL t b n) e0 Q := by
    intro n
    induction n with
    | zero => intro k e0 h; omega
    | succ n ih =>
      intro k e0 hk hi
      refine ws_whileC ((st k e0 hi).imp (fun c e1 h => ?_) fun _ _ q => q)
      cases c with
      | false => exact h
      | true =>
        rw [if_pos rfl] at h ⊢
        refine h.imp fun f e2 h => ?_
        cases f with
        | next =>
          obtain ⟨j, hj, hi⟩ := h
          exact ih j e2 (by omega) hi
        | cont =>
          obtain ⟨j, hj, hi⟩ := h
          exact ih j e2 (by omega) hi
        | brk => exact h
        | ret v => exact h
        | exc v => exact h
  obtain ⟨k, hk, hi⟩ := h0
  exact key _ k e hk hi
end
/-- a list, held as one's own or frozen -/
def Lv (v : SV) (l : List D) : Prop := v = .own 0 l ∨ v = .d (.lst l)
theorem set_same {e : Ev} {i : Nat} {v : Option SV} (h : e[i]? = some v) : e.set i v = e := by
  apply List.ext_getElem?
  intro j
  by_cases c : i = j
  · subst c
    rw [h, List.getElem?_set_self (List.getElem?_eq_some_iff.mp h).1]
  · rw [List.getElem?_set_ne c]
theorem wp_varL {e : Ev} {i : Nat} {v : SV} {l : List D} {Q : D → Ev → Prop} {X : Exc → Ev → Prop} (hv : Lv v l) (h : e[i]? = some (some v)) (q : Q (.lst l) (e.set i (some (.d (.lst l))))) : WP (varE i) e Q X := by
  rcases hv with z | z <;> subst z
  · exact wp_varO h q
  · rw [set_same h] at q
    exact wp_var h q
/-! ### defs -/
section
variable {n : Nat} {m : MS} {args : List SV}
def FinP (args : List SV) (P : Except Exc SV → List D → Prop) (f : Fl) (e : Ev) : Prop := match f with
  | .next => ∃ out, outS args e = some out ∧ P (.ok (.d .non)) out
  | .ret (.d d) => ∃ out, outS args e = some out ∧ P (.ok (.d d)) out
  | .ret (.own 0 xs) => ∃ out, outS args e = some out ∧ P (.ok (.own 0 xs)) out
  | .exc x => ∃ out, outS args e = some out ∧ P (.error x) out
  | _ => False
theorem run_fs {P : Except Exc SV → List D → Prop} (h : WS m (startE n args) (FinP args P)) : ∃ v out, runDef n m args = ⟨v, out, true⟩ ∧ P v out := by
  obtain ⟨f, e, h1, h2⟩ := h
  cases f with
  | next =>
    obtain ⟨out, h3, h4⟩ := h2
    exact ⟨_, out, by unfold runDef; rw [h1]; simp only [finR, h3], h4⟩
  | brk => exact h2.elim
  | cont => exact h2.elim
  | ret v =>
    cases v with
    | d d =>
      obtain ⟨out, h3, h4⟩ := h2
      exact ⟨_, out, by unfold runDef; rw [h1]; simp only [finR, h3], h4⟩
    | own t xs =>
      cases t with
      | zero =>
        obtain ⟨out, h3, h4⟩ := h2
        exact ⟨_, out, by unfold runDef; rw [h1]; simp only [finR, h3], h4⟩
      | succ t => exact h2.elim
  | exc x =>
    obtain ⟨out, h3, h4⟩ := h2
    exact ⟨_, out, by unfold runDef; rw [h1]; simp only [finR, h3], h4⟩
theorem run_eq {v : Except Exc SV} {out : List D} (h : WS m (startE n args) (FinP args fun w o => w = v ∧ o = out)) : runDef n m args = ⟨v, out, true⟩ := by
  obtain ⟨w, o, h1, rfl, rfl⟩ := run_fs h
  exact h1
/-- from a def's value known -/
theorem fin_d {P : Except Exc SV → List D → Prop} {d : D} {e : Ev} {out : List D} (h : outS args e = some out) (q : P (.ok (.d d)) out) : FinP args P (.ret (.d d)) e := ⟨out, h, q⟩
theorem fin_o {P : Except Exc SV → List D → Prop} {xs : List D} {e : Ev} {out : List D} (h : outS args e = some out) (q : P (.ok (.own 0 xs)) out) : FinP args P (.ret (.own 0 xs)) e := ⟨out, h, q⟩
theorem fin_n {P : Except Exc SV → List D → Prop} {e : Ev} {out : List D} (h : outS args e = some out) (q : P (.ok (.d .non)) out) : FinP args P .next e := ⟨out, h, q⟩
theorem fin_x {P : Except Exc SV → List D → Prop} {x : Exc} {e : Ev} {out : List D} (h : outS args e = some out) (q : P (.error x) out) : FinP args P (.exc x) e := ⟨out, h, q⟩
end
/-! ### x(lambda: ..) -/
section
variable {e : Ev} {X : Exc → Ev → Prop} {Q : SV → Ev → Prop} {kt : Str → Option Str}
def asDt : SV → D
  | .d d => d
  | .own _ xs => .lst xs
def TryV (v : SV) (e : Ev) (Q : SV → Ev → Prop) : Prop := (∀ t xs, v = .own t xs → t = 0) ∧ Q (.d (.tup [.str toldS, asDt v])) e
theorem tryV_d {d : D} (q : Q (.d (.tup [.str toldS, d])) e) : TryV (.d d) e Q := ⟨fun _ _ z => (by cases z), q⟩
theorem tryV_o {xs : List D} (q : Q (.d (.tup [.str toldS, .lst xs])) e) : TryV (.own 0 xs) e Q := ⟨fun _ _ z => (by cases z; rfl), q⟩
def TryX (kt : Str → Option Str) (x : Exc) (e : Ev) (Q : SV → Ev → Prop) : Prop := ∃ txt, x.arg = none ∧ kt x.name = some txt ∧ Q (.d (.str txt)) e
theorem tryX {nm txt : Str} (h : kt nm = some txt) (q : Q (.d (.str txt)) e) : TryX kt ⟨nm, none⟩ e Q := ⟨txt, rfl, h, q⟩
theorem wp_try {m : M SV} (h : WP m e (fun v e1 => TryV v e1 Q) (fun x e1 => TryX kt x e1 Q)) : WP (tryM kt m) e Q X := by
  obtain ⟨v, e1, h1, h2⟩ := h
  cases v with
  | ok v =>
    obtain ⟨h3, h4⟩ := h2
    refine ⟨.ok (.d (.tup [.str toldS, asDt v])), e1, ?_, h4⟩
    unfold tryM
    rw [h1]
    cases v with
    | d d => rfl
    | own t xs =>
      have := h3 t xs rfl
      subst this
      rfl
  | error x =>
    obtain ⟨txt, h3, h4, h5⟩ := h2
    refine ⟨.ok (.d (.str txt)), e1, ?_, h5⟩
    unfold tryM
    rw [h1]
    simp only [h3, h4]
end
end DL
set_option maxHeartbeats 1000000
/-! DLL: the law's promise from its mirror -/
namespace DL
open PySem PySem.Spec L2
theorem rep_ints {K : PySem.W.Frag} {F : Hp} : ∀ ns : List Int, RepAll K F (ns.map V.int) (ns.map D.int)
  | [] => .nil
  | i :: r => .cons (.int i) (rep_ints r)
theorem sp_law {K : PySem.W.Frag} {mg : Str → Option Value} {T : Tab} {f : Fn} {H : Hp} {a : Addr} {ns : List Int} (hS : SqL K H a (ns.map V.int)) (hT : LamX.Tabs T H) (hf : f [.d (.lst (ns.map .int))] = ⟨.ok (.d (.bl true)), [], true⟩) :
    spF K mg T 1 f [.ref a] H (fun v _ => v = .bl true) (fun _ _ _ => False) := by
  have fin : ∀ F : Hp, Same F H → (∀ b o, F b = some o → Fz o) → SqL K F a (ns.map V.int) → spF K mg T 1 f [.ref a] H (fun v _ => v = .bl true) (fun _ _ _ => False) := fun F h1 h2 h3 => by
    refine ⟨[], F, [.d (.lst (ns.map .int))], h1, h2, hT, .d (.lst h3 (rep_ints ns)) .nil, rfl, by rw [hf], fun F' H' _ => ?_⟩
    rw [hf]
    intro x hx _
    cases hx
    rfl
  rcases hS with (h | ⟨o, h⟩) | h
  · refine fin (fun b => if b = a then some (.lst (ns.map V.int)) else none) (fun b o (e : (if b = a then some (HO.lst (ns.map V.int)) else none) = some o) => ?_) (fun b o (e : (if b = a then some (HO.lst (ns.map V.int)) else none) = some o) => ?_) (.inl (.inl (if_pos rfl)))
    · by_cases z : b = a
      · subst z
        rw [if_pos rfl] at e
        rw [← e, h]
      · rw [if_neg z] at e
        cases e
    · by_cases z : b = a
      · rw [if_pos z] at e
        cases e
        trivial
      · rw [if_neg z] at e
        cases e
  · refine fin (fun b => if b = a then some (.frz o (.lst (ns.map V.int))) else none) (fun b u (e : (if b = a then some (HO.frz o (.lst (ns.map V.int))) else none) = some u) => ?_) (fun b u (e : (if b = a then some (HO.frz o (.lst (ns.map V.int))) else none) = some u) => ?_) (.inl (.inr ⟨o, if_pos rfl⟩))
    · by_cases z : b = a
      · subst z
        rw [if_pos rfl] at e
        rw [← e, h]
      · rw [if_neg z] at e
        cases e
    · by_cases z : b = a
      · rw [if_pos z] at e
        cases e
        trivial
      · rw [if_neg z] at e
        cases e
  · exact fin (fun _ => none) (fun b o e => by cases e) (fun b o e => by cases e) (.inr h)
end DL
set_option maxHeartbeats 4000000
/-! DLU: sorted(set(list of ints)); functions as values. -/
namespace L2
open PySem PySem.Spec PyProof.Rows
/-- a new set, as it is made -/
abbrev setObj (w : World) : Obj := { cls := .type "set", dict := none, data := .set #[] 0 (.fresh 0 0 (!w.params.followText "set-order")) }
section
variable {P : Program} {w : World} {A : Around} {E : Value → Shared → Prop} {s : Shared}
set_option maxHeartbeats 6400000 in
theorem set_of_list {l : Addr} {items : Array Value} (ns : List Int) {Q : Value → Shared → Prop} (hh : A.handled = none) (hl : s.heap.IsList l items) (hit : IntsAre items.toList ns) (hb : ns.length + 1 < scanBound)
    (h : ∀ (h' : Heap) (tk c : Nat), SetR w h' s.heap.objs.size (fun j => decide (j ∈ ns)) c → c ≤ ns.length → (∀ b o, s.heap.get? b = some o → h'.get? b = some o) → Q (.ref s.heap.objs.size) { s with heap := h', toks := tk }) :
    wpAny (model P w) A (call (.type "set") [.ref l]) Q E s := by
  have hisz : items.size = ns.length := by
    have q := IntsAre.length hit
    rw [Array.length_toList] at q
    exact q
  obtain ⟨c, tl, hmro⟩ := F.called_set.mro
  have hmade := F.called_set.made
  have hsub := F.called_set.sub
  refine wpAny_call (codeAny_of_tree ?_)
  show wpAny _ _ (callAny (.type "set") _) _ _ _
  refine wpAny_pure ⟨Code.quiet_builtin _ (by decide +kernel), codeAny_builtin F.entry_type_call ?_⟩
  rw [Around.under_plain (weight_type_call_type "set" [.ref l] []) rfl]
  have h1 := F.called_set.notType
  have h2 := F.called_set.canCreate
  have hct := F.typeCall_set_1 (.ref l)
  repeat (any_goals (first | assumption | wp_step))
  refine codeAny_mono (code_set_led1 (.ref l) (E := E) (Q₁ := fun obj s₁ => obj = .ref s.heap.objs.size ∧ s₁ = { s with heap := s.heap.push (setObj w) }) ⟨rfl, rfl⟩) fun r s₁ hr => ?_
  cases r with
  | error e => exact hr
  | ok fl =>
    cases fl with
    | ret obj =>
      obtain ⟨rfl, rfl⟩ := hr
      have hS : (s.heap.push (setObj w)).get? s.heap.objs.size = some (setObj w) := Heap.get?_push_size _ rfl
      have hT : Shared.TypeIs { s with heap := s.heap.push (setObj w) } (.ref s.heap.objs.size) "set" := ⟨_, hS, rfl⟩
      have hli := F.called_set.init.lookup
      have hbi := F.called_set.init.bind (.ref s.heap.objs.size)
      repeat (any_goals (first | assumption | wp_step))
      refine codeAny_mono (codeAny_call_builtin (R := wants (fun r s₂ => r = .none ∧ ∃ h' tk c, s₂ = { s with heap := h', toks := tk } ∧ SetR w h' s.heap.objs.size (fun j => decide (j ∈ ns)) c ∧ c ≤ ns.length ∧
          (∀ b o, s.heap.get? b = some o → h'.get? b = some o)) E) F.called_set.init.plain F.entry_set_init (check_set_init_1 hT ?_)) fun r₂ s₂ hr₂ => ?_
      · obtain ⟨ol, hol, hcl, nl, hdl⟩ := hl
        obtain ⟨ocls, odict, odata, oslots⟩ := ol
        simp only at hcl hdl
        subst hcl; subst hdl
        have hol' : (s.heap.push (setObj w)).get? l = some { cls := .type "list", dict := odict, data := .seq items nl, slots := oslots } := Heap.get?_push_of_some _ hol
        have hsls := F.sub_list_set
        have hslf := F.sub_list_frozenset
        have hne : (Value.type "list" == Value.type "dict") = false := by decide
        have hl1 : (s.heap.push (setObj w)).IsList l items := ⟨_, hol', rfl, nl, rfl⟩
        unfold Builtin.«set.__init__» noKeywords Builtin.Frozenset.updateFrom
        generalize hPI : pyIter = PI
        wp_walk
        subst hPI
        refine wpAny_pyIter_list hl1 ?_
        refine wpAny_bind (wpAny_runValue ?_)
        have hlS : l < s.heap.objs.size := Heap.lt_size hol
        have hh3 : A.in1.in1.in1.handled = none := by simp [hh]
        have hz1 : (s.heap.push (setObj w)).objs.size = s.heap.objs.size + 1 := Heap.size_push ..
        have hneI : l ≠ (s.heap.push (setObj w)).objs.size := by rw [hz1]; exact Nat.ne_of_lt (Nat.lt_succ_of_lt hlS)
        have hSf : s.heap.objs.size ∉ [(s.heap.push (setObj w)).objs.size, l] := by
          rw [hz1]
          simp only [List.mem_cons, List.mem_singleton, List.not_mem_nil, or_false, not_or]
          exact ⟨Nat.ne_of_lt (Nat.lt_succ_self _), Nat.ne_of_gt hlS⟩
        have hval : ∀ (i : Nat) (v : Value), items[i]? = some v → ∃ k t, ns[i]? = some k ∧ v = .int k t := fun i v hv => by
          have hi : i < ns.length := by rw [← hisz]; exact (Array.getElem?_eq_some_iff.mp hv).1
          obtain ⟨t, e⟩ := PyProof.Rows.IntsAre.int_at hit i v (by rw [Array.getElem?_toList]; exact hv)
          refine ⟨ns[i], t, List.getElem?_eq_getElem hi, ?_⟩
          rw [e, List.getD_eq_getElem?_getD, List.getElem?_eq_getElem hi] <;> rfl
        refine set_update_ints ((Walks.list hh3 _ l hneI items).toS) s.heap.objs.size hSf ns hisz hb hval (items.size - 0) 0 _ (by omega) (Nat.zero_le _)
          ⟨⟨_, Heap.get?_push_size _ rfl, rfl, rfl⟩, (hl1.push _)⟩ ?hS0 ?hR
        case hS0 =>
          exact ⟨0, Nat.le_refl 0, setR_new_at (Heap.get?_push_of_some _ hS)⟩
        case hR =>
          intro s' c' hm hc' hS'
          obtain ⟨h', g2, d', tk', os'⟩ := s'
          have eg : g2 = s.gens := hm.gens
          have ed : d' = s.drawn := hm.drawn
          have eo : os' = s.os := hm.os
          subst eg; subst ed; subst eo
          show wpAny _ _ _ _ _ _
          refine wpAny_pure ?_
          show wpAny _ _ (ret Value.none) _ _ _
          rw [hisz] at hc'
          refine wpAny_pure ⟨rfl, h', tk', c', rfl, hS', hc', fun b o e => ?_⟩
          have hb0 : b < s.heap.objs.size := Heap.lt_size e
          exact hm.heap b o (by
            rw [hz1]
            simp only [List.mem_cons, List.mem_singleton, List.not_mem_nil, or_false, not_or]
            exact ⟨Nat.ne_of_lt hb0, Nat.ne_of_lt (Nat.lt_succ_of_lt hb0)⟩) (Heap.get?_push_of_some _ (Heap.get?_push_of_some _ e))
      · cases r₂ with
        | error e => exact hr₂
        | ok fl₂ =>
          cases fl₂ with
          | ret r =>
            obtain ⟨rfl, h', tk, c', rfl, hS', hc', hk'⟩ := hr₂
            repeat (any_goals (first | assumption | wp_step))
            exact h _ _ _ hS' hc' hk'
          | _ => exact hr₂.elim
    | _ => exact hr.elim
end
def rSetLI (K : PySem.W.Frag) (w : World) : List V → Hp → VK → Prop := fun xs H Q => ∃ (l : Addr) (ns : List Int), xs = [V.ref l] ∧ SqL K H l (ns.map V.int) ∧ ns.length < 60 ∧
  ∀ p c, H p = none → c ≤ ns.length → Q (.ref p) (upd H p (SetO w p (fun j => decide (j ∈ ns)) c))
theorem ints_of_valsL : ∀ {ns : List Int} {us : List Value}, Vals (ns.map V.int) us → IntsAre us ns
  | [], _, .nil => .nil
  | n :: k, _, .cons r t => by
    obtain ⟨tk, rfl⟩ := r
    exact .cons n tk (ints_of_valsL t)
section
variable {X : Cx}
theorem cr_setL (hc : X.calm = true) : CallR X (.type "set") (rSetLI X.K X.w) := by
  intro pins s σ H xs us Q I r h
  obtain ⟨l, ns, rfl, hl, hz, q⟩ := h
  rw [Vals.ref1 r]
  obtain ⟨its, rv, pl, _⟩ := I.list hl
  have hn : H s.heap.objs.size = none := I.hok.fresh (Nat.le_refl _)
  refine set_of_list ns (I.ok.hd hc) pl.isList (by simpa using ints_of_valsL rv) (by unfold scanBound; omega) fun h' tk c R hc' k => ?_
  exact ⟨.ref s.heap.objs.size, upd H s.heap.objs.size (SetO X.w s.heap.objs.size (fun j => decide (j ∈ ns)) c), I.laid (t' := tk) k (Nat.le_refl _) (setO_new R), rfl, q _ c hn hc'⟩
end
end L2
namespace DL
open PySem PySem.Spec PyProof.Rows L2 L2N
/-! ### sorted(set(xs)) -/
def insI (x : Int) : List Int → List Int
  | [] => [x]
  | y :: r => if x < y then x :: y :: r else if x = y then y :: r else y :: insI x r
def sdI (xs : List Int) : List Int := xs.foldr insI []
theorem mem_insI {x k : Int} : ∀ {l : List Int}, k ∈ insI x l ↔ k = x ∨ k ∈ l
  | [] => by simp [insI]
  | y :: r => by
    unfold insI
    split
    · simp
    · split
      · rename_i h
        subst h
        simp
      · simp only [List.mem_cons, mem_insI (l := r)]
        constructor
        · rintro (h | h | h)
          · exact .inr (.inl h)
          · exact .inl h
          · exact .inr (.inr h)
        · rintro (h | h | h)
          · exact .inr (.inl h)
          · exact .inl h
          · exact .inr (.inr h)
theorem asc_insI {x : Int} : ∀ {l : List Int}, l.Pairwise (· < ·) → (insI x l).Pairwise (· < ·)
  | [], _ => by simp [insI]
  | y :: r, h => by
    obtain ⟨h1, h2⟩ := List.pairwise_cons.mp h
    unfold insI
    split
    · rename_i hx
      refine List.pairwise_cons.mpr ⟨fun z hz => ?_, h⟩
      rcases List.mem_cons.mp hz with e | e
      · rw [e]; exact hx
      · have := h1 z e
        omega
    · split
      · exact h
      · refine List.pairwise_cons.mpr ⟨fun z hz => ?_, asc_insI h2⟩
        rcases mem_insI.mp hz with e | e
        · omega
        · exact h1 z e
theorem mem_sdI {k : Int} : ∀ {l : List Int}, k ∈ sdI l ↔ k ∈ l
  | [] => Iff.rfl
  | y :: r => by
    show k ∈ insI y (sdI r) ↔ _
    rw [mem_insI, mem_sdI (l := r), List.mem_cons]
theorem asc_sdI : ∀ l : List Int, (sdI l).Pairwise (· < ·)
  | [] => .nil
  | y :: r => asc_insI (asc_sdI r)
theorem asc_uniq : ∀ {a b : List Int}, a.Pairwise (· < ·) → b.Pairwise (· < ·) → (∀ k, k ∈ a ↔ k ∈ b) → a = b
  | [], [], _, _, _ => rfl
  | [], y :: b, _, _, h => absurd ((h y).mpr List.mem_cons_self) (by simp)
  | x :: a, [], _, _, h => absurd ((h x).mp List.mem_cons_self) (by simp)
  | x :: a, y :: b, h1, h2, h => by
    obtain ⟨p1, p2⟩ := List.pairwise_cons.mp h1
    obtain ⟨q1, q2⟩ := List.pairwise_cons.mp h2
    have e : x = y := by
      rcases List.mem_cons.mp ((h x).mp List.mem_cons_self) with e | e
      · exact e
      · have := q1 x e
        rcases List.mem_cons.mp ((h y).mpr List.mem_cons_self) with e2 | e2
        · exact e2.symm
        · have := p1 y e2
          omega
    subst e
    rw [asc_uniq p2 q2 fun k => ?_]
    constructor
    · intro hk
      rcases List.mem_cons.mp ((h k).mp (List.mem_cons_of_mem _ hk)) with e | e
      · subst e
        exact absurd (p1 k hk) (by omega)
      · exact e
    · intro hk
      rcases List.mem_cons.mp ((h k).mpr (List.mem_cons_of_mem _ hk)) with e | e
      · subst e
        exact absurd (q1 k hk) (by omega)
      · exact e
def sortSetF : D → M SV
  | .lst ds => (match intsOf ds with
    | some ns => fun e => ⟨.ok (.own 0 ((sdI ns).map .int)), e, decide (ns.length < 60)⟩
    | none => bad)
  | _ => bad
theorem oe_sortedSet {X : Cx} {T : Tab} {W : L2.WX} {e : Expr} {p1 p2 pos pos2 : Pos} {m : M D} (hc : X.calm = true) (hm : X.mg "sorted" = none) (hm2 : X.mg "set" = none) (he : DE X T W e m) (hg : Gl X "sorted" := by rfl) (hg2 : Gl X "set" := by rfl)
    (hs : starEach [e] X.env = (false, eval e X.env) :: starEach [] X.env := by rfl) (hs2 : starEach [.Call (.Name "set" p2) [e] [] pos2] X.env = (false, eval (.Call (.Name "set" p2) [e] [] pos2) X.env) :: starEach [] X.env := by rfl) :
    OE X T W (.Call (.Name "sorted" p1) [.Call (.Name "set" p2) [e] [] pos2] [] pos) (bnd m sortSetF) :=
  PE.imp (pe_callB (cr_sortedSet hc) hg hm (show bootBuiltins ("sorted" : Str) = some (.builtin "sorted") by decide +kernel) (pa_cons (pe_callTy (cr_setL hc) hg2 hm2 (show bootBuiltins ("set" : Str) = some (.type "set") by decide +kernel) (pa_cons he pa_nil hs) (by decide) (by decide) hs rfl) pa_nil hs2) (by decide) (by decide) hs2 rfl)
    fun σ H Q ⟨Z, H0, B, F0, F, env, s, p⟩ => ⟨Z, H0, B, F0, F, env, s, p.bnd.imp fun F1 H1 d f1 s1 p1 x rx => by
      cases d with
      | lst ds =>
        cases rx with
        | lst h1 h2 =>
          rename_i a vs
          cases e : intsOf ds with
          | none =>
            unfold sortSetF at p1
            simp only [e] at p1
            cases p1.1
          | some ns =>
            unfold sortSetF at p1
            simp only [e] at p1
            have hz : ns.length < 60 := of_decide_eq_true p1.1
            have ev := ints_rep e h2
            subst ev
            refine ⟨a, ns, rfl, sameL s1.sub h1, hz, fun q c hq hc' => ?_⟩
            have s2 := s1.laid hq (SetO X.w q (fun j => decide (j ∈ ns)) c)
            refine ⟨q, _, c, rfl, upd_same, by omega, fun ms r hs hmem hlen hr => ?_⟩
            have em : ms = sdI ns := asc_uniq hs (asc_sdI ns) fun k => by
              rw [hmem k, mem_sdI]
              simp
            subst em
            have s3 := s2.laid hr (.lst ((sdI ns).map V.int))
            exact p1.2 F1 _ (Same.refl _) s3 _ (s2.fr_new hr (rep_ints (sdI ns)))
      | _ => cases p1.1⟩
section
variable {e : Ev} {X : Exc → Ev → Prop} {QV : SV → Ev → Prop}
theorem wp_sortSet {ds : List D} {ns : List Int} (h : intsOf ds = some ns) (hl : ns.length < 60) (q : QV (.own 0 ((sdI ns).map .int)) e) : WP (sortSetF (.lst ds)) e QV X := ⟨.ok _, e, by unfold sortSetF; simp only [h]; rw [decide_eq_true hl], q⟩
end
/-! ### functions as values -/
theorem de_globF {X : Cx} {T : Tab} {W : L2.WX} {pos : Pos} {x : Str} (hm : X.mg x = some (.ref (He.fAd X.K (x, none)))) (hg : Gl X x := by rfl) (hd : (x == ("__debug__" : Str)) = false := by decide) : DE X T W (.Name x pos) (constE (.fn x)) :=
  de_glob (v := .ref (He.ga X.K x)) hg hm rfl (fun _ => .fn x) hd
def lookF (x : Str) : List (Str × Fn) → Option Fn
  | [] => none
  | (y, f) :: r => if x = y then some f else lookF x r
def callVM (i : Nat) (fs : List (Str × Fn)) (m : M (List AV)) : M SV := fun env => match env[i]? with
  | some (some (.d (.fn x))) => (match lookF x fs with
    | some f => callM f m env
    | none => ⟨.error default, env, false⟩)
  | _ => ⟨.error default, env, false⟩
def FnEnt (X : Cx) (T : Tab) (n : Nat) (y : Str) (f : Fn) : Prop := ∃ (k : Nat) (fd : FuncData) (ps : List Str), FnD X.prog X.w X.K X.mg X.base T k (He.fAd X.K (y, none)) fd ps f ∧ Room k X.A ∧ PySem.W.keepIn X.K (.ref (He.fAd X.K (y, none))) = true ∧ Binds X.K fd ps [] ∧ ps.length = n
inductive FnsD (X : Cx) (T : Tab) (n : Nat) : List (Str × Fn) → Prop
  | nil : FnsD X T n []
  | cons {y : Str} {f : Fn} {r : List (Str × Fn)} {k : Nat} {fd : FuncData} {ps : List Str} (h1 : FnD X.prog X.w X.K X.mg X.base T k (He.fAd X.K (y, none)) fd ps f) (h2 : Room k X.A) (h3 : PySem.W.keepIn X.K (.ref (He.fAd X.K (y, none))) = true) (h4 : Binds X.K fd ps []) (h5 : ps.length = n) (h : FnsD X T n r) : FnsD X T n ((y, f) :: r)
theorem FnsD.look {X : Cx} {T : Tab} {n : Nat} {x : Str} {f : Fn} : ∀ {fs : List (Str × Fn)}, FnsD X T n fs → lookF x fs = some f → FnEnt X T n x f
  | _, .nil, e => by cases e
  | (y, g) :: r, .cons h1 h2 h3 h4 h5 h, e => by
    unfold lookF at e
    by_cases q : x = y
    · rw [if_pos q] at e
      cases e
      subst q
      exact ⟨_, _, _, h1, h2, h3, h4, h5⟩
    · rw [if_neg q] at e
      exact h.look e
theorem pe_callSV {X : Cx} {CX : CXT} {k i : Nat} {f : Addr} {fd : FuncData} {ps : List Str} {sp : Sp} {E : L2.St → XK} {x : Str} {e : Expr} {es : List Expr} {t : TA} {p pos : Pos} (F : FnOk X.prog X.w X.K X.mg X.base CX k f fd ps sp) (hr : Room k X.A) (hv : PE X (.Name x p) (tVar i)) (hk : PySem.W.keepIn X.K (.ref f) = true) (hb : Binds X.K fd ps []) (hx : ∀ σ, PassesAt CX X σ (E σ))
    (ha : PA X (e :: es) t) (he : starEach (e :: es) X.env = (false, eval e X.env) :: starEach es X.env := by rfl) (hpl : (backTo pos (starEach es X.env)).any (·.1) = false := by rfl) :
    PE X (.Call (.Name x p) (e :: es) [] pos) (fun σ H Q => (σ : List (Option V))[i]? = some (some (V.ref f)) ∧ tCallS sp E t σ H Q) := by
  refine ⟨fun pins s σ H Q I ⟨hs, h⟩ => ?_⟩
  refine wpAny_Call_Name_kw (thn (hv.run pins s σ H (fun v G => v = .ref f ∧ G = H) I ⟨.ref f, hs, rfl, rfl⟩) fun u s1 ⟨v, G, I1, r1, ev, eH⟩ => ?_)
  subst ev eH
  obtain rfl : u = Value.ref f := r1
  refine PySem.W.callWith_K (h₀ := X.base) I1.ok.mod.kin hk (thn (ha.run pos pins s1 σ G _ I1 h) fun us s2 ⟨vs, H2, I2, r, q⟩ => ⟨I2.kIn, ?_⟩) he hpl
  exact run_fnS F hr hb (hx σ) I2 r q
theorem oe_callV {X : Cx} {T : Tab} {W : L2.WX} {i n : Nat} {fs : List (Str × Fn)} {x : Str} {e : Expr} {es : List Expr} {p pos : Pos} {m : M (List AV)} (hf : FnsD X T n fs) (hx : PE X (.Name x p) (tVar i)) (tk : L2N.Takes X W)
    (hv : DVn X T W (e :: es) m n) (he : starEach (e :: es) X.env = (false, eval e X.env) :: starEach es X.env := by rfl) (hpl : (backTo pos (starEach es X.env)).any (·.1) = false := by rfl) :
    OE X T W (.Call (.Name x p) (e :: es) [] pos) (callVM i fs m) := by
  refine ⟨fun pins s σ H Q I ⟨Z, H0, B, F0, F, env, sr, pp⟩ => ?_⟩
  unfold callVM at pp
  cases q : env[i]? with
  | none =>
    rw [q] at pp
    cases pp.1
  | some o =>
    cases o with
    | none =>
      rw [q] at pp
      cases pp.1
    | some v =>
      cases v with
      | own t xs =>
        rw [q] at pp
        cases pp.1
      | d d =>
        cases d with
        | fn y =>
          rw [q] at pp
          cases hl : lookF y fs with
          | none =>
            simp only [hl] at pp
            cases pp.1
          | some f =>
            simp only [hl] at pp
            obtain ⟨k, fd, ps, h1, h2, h3, h4, h5⟩ := hf.look hl
            subst h5
            obtain ⟨z, hz, rz⟩ := sr.slots i _ q
            have ez : z = .ref (He.ga X.K y) := by cases rz; rfl
            subst ez
            refine (pe_callSV (E := WE W) h1 h2 hx h3 h4 (fun σ => L2N.passAt tk σ) hv.dv he hpl).run pins s σ H Q I ⟨hz, Z, H0, B, F0, F, env, sr, ?_⟩
            have pb := Post.bnd (m := m) pp
            refine ⟨pb.1, ?_⟩
            cases q2 : (m env).val with
            | error x =>
              have z := pb.2
              rw [q2] at z
              exact z
            | ok as =>
              have z := pb.2
              rw [q2] at z
              exact fun F1 H1 f1 s1 xs ha => call_post s1 ha (hv.al env as q2) (z F1 H1 f1 s1)
        | _ =>
          rw [q] at pp
          cases pp.1
theorem wp_callV {i : Nat} {fs : List (Str × Fn)} {m : M (List AV)} {e : Ev} {x : Str} {f : Fn} {Q : SV → Ev → Prop} {X : Exc → Ev → Prop} (h : e[i]? = some (some (.d (.fn x)))) (hf : lookF x fs = some f) (q : WP (callM f m) e Q X) : WP (callVM i fs m) e Q X := by
  obtain ⟨v, e1, h1, h2⟩ := q
  exact ⟨v, e1, by unfold callVM; simp only [h, hf]; exact h1, h2⟩
end DL
set_option maxHeartbeats 2000000
/-! DLV: a comprehension over a list of one's own that stays one's own. -/
namespace DL
open PySem PySem.Spec PyProof.Rows L2 L2N
section
variable {K : PySem.W.Frag} {mg : Str → Option Value} {T : Tab} {W : L2.WX} {Z H0 : Hp} {B : List Addr} {F0 F F1 : Hp} {env : Ev} {σ : L2.St} {H : Hp}
theorem SVR.unz {a : Addr} {us : List V} {v : SV} {x : V} (r : SVR K T (upd Z a (.lst us)) H0 B F H v x) (hz : Z a = none) : SVR K T Z H0 B F H v x ∧ ∀ t xs, v = .own t xs → x ≠ .ref a := by
  cases v with
  | d d => exact ⟨r, fun t xs e => by cases e⟩
  | own t xs =>
    obtain ⟨b, vs, e, h1, h2, h3, h4, h5⟩ := r
    have q : b ≠ a := fun q => by
      subst q
      rw [upd_same] at h3
      cases h3
    rw [upd_ne q] at h3
    exact ⟨⟨b, vs, e, h1, h2, h3, h4, h5⟩, fun _ _ _ e2 => q (by rw [e] at e2; cases e2; rfl)⟩
/-- the slot's own list is held: protected, the slot forgotten -/
theorem SR.lent (s : SR K T Z H0 B F0 F env σ H) {i t : Nat} {xs : List D} {a : Addr} {vs : List V} (e : env[i]? = some (some (.own t xs))) (ex : (σ : List (Option V))[i]? = some (some (V.ref a))) (ha : H a = some (.lst vs)) (fa : F a = none) : SR K T (upd Z a (.lst vs)) H0 B F0 F (env.set i none) σ H := by
  have sd := s.drop i
  have own_i : isOwn env[i]? = true := by rw [e]; rfl
  refine ⟨sd.sub, sd.pure, sd.sub0, sd.new, sd.keep, sd.tabs, sd.bor, sd.live, sd.len, fun b u eb => ?_, fun b eb => ?_, fun j v ej => ?_, sd.apart⟩
  · by_cases q : b = a
    · subst q
      rw [upd_same] at eb
      cases eb
      exact ha
    · rw [upd_ne q] at eb
      exact s.prot b u eb
  · by_cases q : b = a
    · subst q
      exact ⟨fa, vs, by rw [upd_same]⟩
    · rw [upd_ne q] at eb
      obtain ⟨h1, us, h2⟩ := s.zf b eb
      exact ⟨h1, us, by rw [upd_ne q]; exact h2⟩
  · have ji : j ≠ i := fun z => by
      subst z
      have hl : j < env.length := (List.getElem?_eq_some_iff.mp e).1
      rw [List.getElem?_set_self hl] at ej
      cases ej
    rw [List.getElem?_set_ne (Ne.symm ji)] at ej
    obtain ⟨x, ex2, r⟩ := s.slots j v ej
    refine ⟨x, ex2, ?_⟩
    cases v with
    | d d => exact r
    | own t2 ys =>
      obtain ⟨b, us, eb, h1, h2, h3, h4, h5⟩ := r
      have q : b ≠ a := fun q => by
        subst q
        subst eb
        exact ji (s.apart j i b (by rw [ej]; rfl) own_i ex2 ex)
      exact ⟨b, us, eb, h1, h2, by rw [upd_ne q]; exact h3, h4, h5⟩
/-- the held list is the slot's again -/
theorem SR.back {i t : Nat} {xs : List D} {a : Addr} {vs : List V} (s : SR K T (upd Z a (.lst vs)) H0 B F0 F env σ H) (hi : i < env.length) (ex : (σ : List (Option V))[i]? = some (some (V.ref a))) (hz : Z a = none) (ra : RepAll K F vs xs) (ht : match t with
    | 0 => ¬ L0 T H0 a
    | k + 1 => B[k]? = some a) : SR K T Z H0 B F0 F (env.set i (some (.own t xs))) σ H := by
  have ha : H a = some (.lst vs) := s.prot a _ upd_same
  have fa : F a = none := (s.zf a (by rw [upd_same]; simp)).1
  have sl := s.letgo hz
  have noA : ∀ (j : Nat) (c : Addr), j ≠ i → isOwn env[j]? = true → (σ : List (Option V))[j]? = some (some (V.ref c)) → c ≠ a := fun j c hj ho hc q => by
    subst q
    cases e : env[j]? with
    | none => rw [e] at ho; simp [isOwn] at ho
    | some o =>
      cases o with
      | none => rw [e] at ho; simp [isOwn] at ho
      | some v =>
        obtain ⟨x, ex2, r⟩ := s.slots j v e
        rw [hc] at ex2
        cases ex2
        cases v with
        | d d => rw [e] at ho; simp [isOwn] at ho
        | own t2 ys => exact (r.unz hz).2 t2 ys rfl rfl
  have back : ∀ (j : Nat), j ≠ i → (env.set i (some (.own t xs)))[j]? = env[j]? := fun j hj => List.getElem?_set_ne (Ne.symm hj)
  refine ⟨sl.sub, sl.pure, sl.sub0, sl.new, sl.keep, sl.tabs, sl.bor, sl.live, by simpa using sl.len, sl.prot, sl.zf, fun j v ej => ?_, fun j k b hj hk ej ek => ?_⟩
  · by_cases q : j = i
    · subst q
      rw [List.getElem?_set_self hi] at ej
      cases ej
      exact ⟨_, ex, a, vs, rfl, ha, fa, hz, ra, ht⟩
    · rw [back j q] at ej
      exact sl.slots j v ej
  · by_cases qj : j = i
    · by_cases qk : k = i
      · rw [qj, qk]
      · rw [back k qk] at hk
        subst qj
        rw [ex] at ej
        cases ej
        exact absurd rfl (noA k a qk hk ek)
    · rw [back j qj] at hj
      by_cases qk : k = i
      · subst qk
        rw [ex] at ek
        cases ek
        exact absurd rfl (noA j a qj hj ej)
      · rw [back k qk] at hk
        exact s.apart j k b hj hk ej ek
end
/-- a comprehension over slot i's own list -/
def lcV (i : Nat) (own : List Nat) (tg : MT) (tt : M Bool) (me : M D) : M SV := fun env => match env[i]? with
  | some (some (.own t xs)) => (match lcF own tg tt me xs (env.set i none) with
    | ⟨v, e2, g⟩ => ⟨v, e2.set i (some (.own t xs)), g && decide (i ∉ own) && decide (i < e2.length)⟩)
  | some (some (.d d)) => lcO own (seqI (constE d)) tg tt me env
  | _ => ⟨.error default, env, false⟩
theorem iter_own {K : PySem.W.Frag} {a : Addr} {vs : List V} {ds : List D} {F Zp : Hp} (hz : Zp a = some (.lst vs)) (h2 : RepAll K F vs ds) : IterOk K (Itl K a) ds F Zp := by
  refine ⟨fun H => SqL K H a vs, _, by rw [← RepAll.length h2]; exact walk_list (xs := vs), fun H _ p => .inl (.inl (p a _ hz)), fun i H v H' hi y T Z H0 B F0 F1 env σ f s => ?_⟩
  obtain ⟨rfl, y⟩ := y
  obtain ⟨d, e, r⟩ := RepAll.getV h2 y
  exact ⟨F1, d, Same.refl _, s, e, r.mono f⟩
section
variable {X : Cx} {T : Tab} {W : L2.WX} {tg iter : Expr} {pos : Pos}
theorem oe_lcV {i : Nat} {elt : Expr} {ifs : List Expr} {scope : Scope} {own : List (Str × Nat)} {t : MT} {tt : M Bool} {me : M D} (hc : X.calm = true) (hN : X.N.Nodup) (hv : PE X iter (tVar i)) (ok : BlkOk X.N X.env.scope scope own)
    (hg : ∀ (s : Shared) (H : Hp) (C : Addr) (cl : List (Str × Addr)) (fp : List Addr), DG (X.blk s H scope (compEnvC scope cl C X.env) fp) T (own.map (·.2)) tg t) (ht : ∀ (s : Shared) (H : Hp) (C : Addr) (cl : List (Str × Addr)) (fp : List Addr), PTs (X.blk s H scope (compEnvC scope cl C X.env) fp) ifs (LiftT X.K X.mg T WF tt))
    (he : ∀ (s : Shared) (H : Hp) (C : Addr) (cl : List (Str × Addr)) (fp : List Addr), DE (X.blk s H scope (compEnvC scope cl C X.env) fp) T WF elt me) (hs : ∀ x, foldedSetIterable iter X.env x = pure x := by intro _; rfl) :
    OE X T W (.ListComp elt [⟨tg, iter, ifs, 0⟩] scope pos) (lcV i (own.map (·.2)) t tt me) := by
  refine ⟨fun pins s σ H Q I ⟨Z, H0, B, F0, F, env, sr, p⟩ => ?_⟩
  unfold lcV at p
  cases q : env[i]? with
  | none =>
    rw [q] at p
    cases p.1
  | some o =>
    cases o with
    | none =>
      rw [q] at p
      cases p.1
    | some v =>
      cases v with
      | d d =>
        simp only [q] at p
        have hd : DE X T W iter (varE i) := de_var hv
        have h := oe_lc (T := T) (W := W) (m := seqI (varE i)) (t := t) (tt := tt) (me := me) (pos := pos) hc hN (di_seq hd) ok hg ht he hs
        refine h.run pins s σ H Q I ⟨Z, H0, B, F0, F, env, sr, ?_⟩
        have e : lcO (own.map (·.2)) (seqI (varE i)) t tt me env = lcO (own.map (·.2)) (seqI (constE d)) t tt me env := by
          have e1 : varE i env = constE d env := by unfold varE constE ret; simp only [q]
          unfold lcO seqI bnd
          rw [e1]
        rw [e]
        exact p
      | own tk xs =>
        simp only [q] at p
        obtain ⟨z, ez, a, vs, rfl, ha, fa, za, ra, h0⟩ := sr.slots i _ q
        have hil : i < env.length := (List.getElem?_eq_some_iff.mp q).1
        have s1 := sr.lent q ez ha fa
        cases hrun : lcF (own.map (·.2)) t tt me xs (env.set i none) with
        | mk v E g =>
        rw [hrun] at p
        simp only at p
        obtain ⟨hg1, hg2⟩ := Bool.and_eq_true_iff.mp (show (g && decide (i ∉ own.map (·.2)) && decide (i < E.length)) = true from p.1)
        obtain ⟨hg3, hg4⟩ := Bool.and_eq_true_iff.mp hg1
        have hE := of_decide_eq_true hg2
        have h := pe_lc (X := X) (g := LiftG X.K T (own.map (·.2)) t) (tt := LiftT X.K X.mg T WF tt) (te := LiftE X.K X.mg T WF me) hc hN (pi_list (tg := tg) hv) ok hg ht he hs (pos := pos)
        refine h.run pins s σ H Q I ⟨_, ez, a, rfl, ⟨vs, .inl (.inl ha)⟩, ?_⟩
        refine lc_post (W := W) (J := Itl X.K a) s1 ?_ (iter_own upd_same ra)
        rw [hrun]
        refine ⟨hg3, ?_⟩
        have p2 := p.2
        cases v with
        | error x =>
          simp only at p2 ⊢
          intro F' H' cls dx f s2 hx
          exact p2 F' H' cls dx f (s2.back hE ez za (RepAll.mono f ra) h0) hx
        | ok w =>
          simp only at p2 ⊢
          intro F' H' f s2 x fr
          refine p2 F' H' f (s2.back hE ez za (RepAll.mono f ra) h0) x ⟨(fr.1.unz za).1, fun t2 ys e2 => ?_⟩
          obtain ⟨t0, hfr⟩ := fr.2 t2 ys e2
          refine ⟨t0, fun j b eb ho hb => ?_⟩
          by_cases c : j = i
          · subst c
            rw [ez] at hb
            cases hb
            exact (fr.1.unz za).2 t2 ys e2 eb
          · rw [List.getElem?_set_ne (Ne.symm c)] at ho
            exact hfr j b eb ho hb
end
section
variable {e : Ev} {X : Exc → Ev → Prop} {Q : SV → Ev → Prop} {i t : Nat} {own : List Nat} {tg : MT} {tt : M Bool} {me : M D} {xs : List D}
theorem wp_lcVD {d : D} (h : e[i]? = some (some (.d d))) (q : ItemsP d e (fun xs e1 => LC own tg tt me xs e1 Q X)) : WP (lcV i own tg tt me) e Q X := by
  obtain ⟨v, e1, h1, h2⟩ := wp_lc (own := own) (tg := tg) (tt := tt) (me := me) (it := seqI (constE d)) (e := e) (wp_seqI (wp_const q))
  exact ⟨v, e1, by unfold lcV; simp only [h]; exact h1, h2⟩
theorem wp_lcVO (h : e[i]? = some (some (.own t xs))) (hi : decide (i ∉ own) = true) (q : LC own tg tt me xs (e.set i none) (fun v e1 => i < e1.length ∧ Q v (e1.set i (some (.own t xs)))) (fun _ _ => False)) : WP (lcV i own tg tt me) e Q X := by
  obtain ⟨v, e1, h1, h2⟩ := q
  cases v with
  | error x => exact h2.elim
  | ok v => exact ⟨.ok v, _, by unfold lcV; simp only [h, h1, hi, decide_eq_true h2.1, Bool.and_self], h2.2⟩
end
section
variable {e : Ev} {X : Exc → Ev → Prop} {Q : D → Ev → Prop} {d : D}
theorem beq_same (h : d.shp = true) : d.beq d = true := SeqAt.eqv_refl _ (shp_lay h)
theorem wp_neSame (h : d.shp = true) (q : Q (.bl false) e) : WP (neF d d) e Q X := wp_ne (by rw [h]; rfl) (by rw [beq_same h]; exact q)
theorem wp_eqSame (h : d.shp = true) (q : Q (.bl true) e) : WP (eqF d d) e Q X := wp_eq (by rw [h]; rfl) (by rw [beq_same h]; exact q)
end
end DL
set_option maxHeartbeats 0

namespace K08
open PySem PySem.Spec PyProof.Rows L2 DL
def kt (x : Str) : Option Str := if x = "InvalidTable" then some "table +" else none
def m_is_within : MS := retS (ofD (andE (isiE .int (varE 0)) (andE (notE (isiE .bl (varE 0))) (chain2 (cmpF leP) (cmpF leP) (varE 1) (varE 0) (varE 2)))))
def f_is_within : Fn := runDef 3 m_is_within
def m_is_row : MS := seqS (ifS (orT (notT (tB (isiE .tup (varE 0)))) (tB (bin2 neF (lenV 0) (varE 1)))) (retS (ofD (constE (.bl false)))) (nextS)) (retS (ofD (bnd (consA (toD (lcO [3] (seqI (varE 0)) (nameT 3) (yesT) (toD (callM f_is_within (consV (varE 3) (consV (un1 negF (varE 2)) (consV (varE 2) (nilV)))))))) (nilA)) allF)))
def f_is_row : Fn := runDef 4 m_is_row
def m_is_table_value : MS := seqS (ifS (orT (notT (tB (isiE .tup (varE 0)))) (notT (tB (chain2 (cmpF leP) (cmpF leP) (constE (.int 1)) (lenV 0) (constE (.int 3)))))) (retS (ofD (constE (.bl false)))) (nextS)) (retS (ofD (bnd (consA (toD (lcO [1] (seqI (varE 0)) (nameT 1) (yesT) (toD (callM f_is_row (consV (varE 1) (consV (lenV 0) (consV (constE (.int 9)) (nilV)))))))) (nilA)) allF)))
def f_is_table_value : Fn := runDef 2 m_is_table_value
def m_need_table : MS := ifS (notT (tB (toD (callM f_is_table_value (consV (varE 0) (nilV)))))) (raiseS "InvalidTable") (nextS)
def f_need_table : Fn := runDef 1 m_need_table
def m_lots_of : MS := seqS (asgS 1 (lstO (consA (tupE (nilA)) (nilA)))) (seqS (forS (bnd (consA (varE 0) (nilA)) range1F) (nameT 2) (asgS 1 (bin2 addF (varE 1) (toD (lcO [3] (seqI (varE 1)) (nameT 3) (yesT) (toD (bin2 addF (varE 3) (tupE (consA (varE 2) (nilA)))))))))) (retS (bnd (consA (varE 1) (nilA)) sortF)))
def f_lots_of : Fn := runDef 4 m_lots_of
def m_determinant (self : Fn) : MS := seqS (ifS (tB (bin2 eqF (varE 0) (toD (lstO (nilA))))) (retS (ofD (constE (.int 1)))) (nextS)) (seqS (asgT (tupN 2 (consT (nameT 1) (consT (nameT 2) (nilT)))) (tupE (consA (constE (.int 0)) (consA (constE (.int 1)) (nilA))))) (seqS (forS (bnd (consA (ixV 0 (constE (.int 0))) (nilA)) enumF) (tupN 2 (consT (nameT 3) (consT (nameT 4) (nilT)))) (seqS (asgS 5 (lcO [6] (seqI (toD (slO (varE 0) (part (constE (.int 1))) (noPart)))) (nameT 6) (yesT) (toD (bin2 addF (toD (slO (varE 6) (noPart) (part (varE 3)))) (toD (slO (varE 6) (part (toD (bin2 addF (varE 3) (constE (.int 1))))) (noPart))))))) (seqS (asgS 1 (bin2 addF (varE 1) (bin2 mulF (bin2 mulF (varE 2) (varE 4)) (toD (callM self (consV (varE 5) (nilV))))))) (asgS 2 (ofD (un1 negF (varE 2))))))) (retS (takeO 1))))
def f_determinant : Nat → Fn
  | 0 => fun _ => badR
  | n + 1 => runDef 7 (m_determinant (f_determinant n))
def m_minor_of : MS := retS (callM (f_determinant 5) (consV (toD (lcO [2] (seqI (varE 1)) (nameT 2) (yesT) (toD (lcO [3] (seqI (varE 1)) (nameT 3) (yesT) (bin2 atF (ixV 0 (varE 2)) (varE 3)))))) (nilV)))
def f_minor_of : Fn := runDef 4 m_minor_of
def m_is_single_value : MS := retS (ofD (bnd (consA (toD (lcO [1] (seqI (toD (callM f_lots_of (consV (lenV 0) (nilV))))) (nameT 1) (yesT) (bin2 (cmpF gtP) (toD (callM f_minor_of (consV (varE 0) (consV (varE 1) (nilV))))) (constE (.int 0))))) (nilA)) allF))
def f_is_single_value : Fn := runDef 2 m_is_single_value
def m_is_single : MS := seqS (dropS (callM f_need_table (consV (varE 0) (nilV)))) (retS (callM f_is_single_value (consV (varE 0) (nilV))))
def f_is_single : Fn := runDef 1 m_is_single
def m_need_bounds : MS := seqS (dropS (callM f_need_table (consV (varE 0) (nilV)))) (seqS (dropS (callM f_need_table (consV (varE 1) (nilV)))) (seqS (ifS (tB (bin2 neF (lenV 0) (lenV 1))) (raiseS "InvalidTable") (nextS)) (forS (bnd (consA (varE 0) (consA (varE 1) (nilA))) zipF) (tupN 2 (consT (nameT 2) (consT (nameT 3) (nilT)))) (ifS (tB (bnd (consA (toD (lcO [4, 5] (bnd (consA (varE 2) (consA (varE 3) (nilA))) zipF) (tupN 2 (consT (nameT 4) (consT (nameT 5) (nilT)))) (yesT) (bin2 (cmpF gtP) (varE 4) (varE 5)))) (nilA)) anyF)) (raiseS "InvalidTable") (nextS)))))
def f_need_bounds : Fn := runDef 6 m_need_bounds
def m_rows_within : MS := seqS (asgS 2 (lstO (consA (tupE (nilA)) (nilA)))) (seqS (forS (bnd (consA (varE 0) (consA (varE 1) (nilA))) zipF) (tupN 2 (consT (nameT 3) (consT (nameT 4) (nilT)))) (seqS (asgS 5 (lstO (nilA))) (seqS (forS (seqI (varE 2)) (nameT 6) (asgS 5 (bin2 addF (varE 5) (toD (lcO [7] (seqI (toD (bnd (toD (lstO (consA (varE 3) (consA (varE 4) (nilA))))) sortSetF))) (nameT 7) (yesT) (toD (bin2 addF (varE 6) (tupE (consA (varE 7) (nilA)))))))))) (asgS 2 (ofD (varE 5)))))) (retS (takeO 2)))
def f_rows_within : Fn := runDef 8 m_rows_within
def m_bad_table : MS := seqS (asgS 2 (lstO (consA (tupE (nilA)) (nilA)))) (seqS (forS (bnd (consA (varE 0) (consA (varE 1) (nilA))) zipF) (tupN 2 (consT (nameT 3) (consT (nameT 4) (nilT)))) (seqS (asgS 5 (lstO (nilA))) (seqS (forS (seqI (varE 2)) (nameT 6) (asgS 5 (bin2 addF (varE 5) (toD (lcO [7] (seqI (toD (callM f_rows_within (consV (varE 3) (consV (varE 4) (nilV)))))) (nameT 7) (yesT) (toD (bin2 addF (varE 6) (tupE (consA (varE 7) (nilA)))))))))) (asgS 2 (ofD (varE 5)))))) (seqS (forS (seqI (varE 2)) (nameT 6) (ifS (notT (tB (toD (callM f_is_single_value (consV (varE 6) (nilV)))))) (retS (takeO 6)) (nextS))) (retS (ofD (constE .non)))))
def f_bad_table : Fn := runDef 8 m_bad_table
def m_all_single : MS := seqS (dropS (callM f_need_bounds (consV (varE 0) (consV (varE 1) (nilV))))) (retS (ofD (bin2 isF (toD (callM f_bad_table (consV (varE 0) (consV (varE 1) (nilV))))) (constE .non))))
def f_all_single : Fn := runDef 2 m_all_single
def m_first_bad : MS := seqS (dropS (callM f_need_bounds (consV (varE 0) (consV (varE 1) (nilV))))) (retS (callM f_bad_table (consV (varE 0) (consV (varE 1) (nilV)))))
def f_first_bad : Fn := runDef 2 m_first_bad
def m__law_deck : MS := seqS (ifS (tB (bin2 (cmpF geP) (varE 0) (bin2 powF (constE (.int 10)) (constE (.int 18))))) (retS (lstO (consA (bin2 subF (varE 0) (bin2 powF (constE (.int 10)) (constE (.int 18)))) (consA (bin2 modF (varE 0) (constE (.int 2147483579))) (consA (varE 1) (nilA)))))) (nextS)) (retS (lstO (consA (constE (.int 0)) (consA (bin2 modF (varE 0) (constE (.int 2147483579))) (consA (varE 1) (nilA))))))
def f__law_deck : Fn := runDef 2 m__law_deck
def m__law_pick : MS := seqS (ifS (tB (bin2 (cmpF gtP) (ixV 0 (constE (.int 0))) (constE (.int 1)))) (seqS (asgS 2 (ofD (bin2 modF (bnd (consA (ixV 0 (constE (.int 0))) (nilA)) intF) (varE 1)))) (seqS (putS 0 (constE (.int 0)) (bin2 fdivF (ixV 0 (constE (.int 0))) (varE 1))) (retS (takeO 2)))) (nextS)) (seqS (putS 0 (constE (.int 2)) (toD (bin2 addF (ixV 0 (constE (.int 2))) (constE (.int 1))))) (seqS (asgS 3 (ofD (bin2 modF (bin2 powF (toD (bin2 addF (ixV 0 (constE (.int 1))) (bin2 mulF (constE (.int 15485867)) (ixV 0 (constE (.int 2)))))) (constE (.int 5))) (constE (.int 2147483647))))) (seqS (asgS 2 (ofD (bin2 fdivF (bin2 modF (bin2 powF (toD (bin2 addF (varE 3) (bin2 mulF (constE (.int 7919)) (ixV 0 (constE (.int 2)))))) (constE (.int 3))) (constE (.int 2147483629))) (constE (.int 32))))) (retS (ofD (bin2 modF (bnd (consA (varE 2) (nilA)) intF) (varE 1)))))))
def f__law_pick : Fn := runDef 4 m__law_pick
def m__law_one : MS := retS (ofD (ixV 1 (toD (callM f__law_pick (consL 0 (consV (lenV 1) (nilV)))))))
def f__law_one : Fn := runDef 2 m__law_one
def m__law_sort : MS := seqS (ifS (tB (isiE .bl (varE 0))) (retS (ofD (constE (.int 1)))) (nextS)) (seqS (ifS (tB (isiE .int (varE 0))) (retS (ofD (constE (.int 2)))) (nextS)) (seqS (ifS (tB (isiE .str (varE 0))) (retS (ofD (constE (.int 3)))) (nextS)) (seqS (ifS (tB (isiE .lst (varE 0))) (retS (ofD (constE (.int 4)))) (nextS)) (retS (iteM (tB (isiE .tup (varE 0))) (ofD (constE (.int 5))) (ofD (constE (.int 6))))))))
def f__law_sort : Fn := runDef 1 m__law_sort
def m__law_same (self : Fn) : MS := seqS (ifS (tB (bin2 neF (toD (callM f__law_sort (consV (varE 0) (nilV)))) (toD (callM f__law_sort (consV (varE 1) (nilV)))))) (retS (ofD (constE (.bl false)))) (nextS)) (seqS (ifS (andT (tB (bin2 (cmpF gtP) (toD (callM f__law_sort (consV (varE 0) (nilV)))) (constE (.int 3)))) (tB (bin2 (cmpF ltP) (toD (callM f__law_sort (consV (varE 0) (nilV)))) (constE (.int 6))))) (seqS (ifS (tB (bin2 neF (lenV 0) (lenV 1))) (retS (ofD (constE (.bl false)))) (nextS)) (retS (ofD (bin2 eqF (toD (lcO [2, 3] (bnd (consA (varE 0) (nilA)) enumF) (tupN 2 (consT (nameT 2) (consT (nameT 3) (nilT)))) (notT (tB (toD (callM self (consV (varE 3) (consV (ixV 1 (varE 2)) (nilV))))))) (varE 2))) (toD (lstO (nilA))))))) (nextS)) (retS (ofD (bin2 eqF (varE 0) (varE 1)))))
def f__law_same : Nat → Fn
  | 0 => fun _ => badR
  | n + 1 => runDef 4 (m__law_same (f__law_same n))
def m__law_kin (a0 : Addr) (b0 b1 b2 b3 b4 b5 b6 b7 b8 b9 b10 b11 b12 : Bool) : MS := seqS (asgS 1 (lstO (consA (isXE a0 b0 (varE 0)) (consA (isXE a0 b1 (varE 0)) (consA (isXE a0 b2 (varE 0)) (nilA)))))) (seqS (asgS 1 (bin2 addF (varE 1) (toD (lstO (consA (isXE a0 b3 (varE 0)) (consA (isXE a0 b4 (varE 0)) (consA (isXE a0 b5 (varE 0)) (nilA)))))))) (seqS (asgS 1 (bin2 addF (varE 1) (toD (lstO (consA (isXE a0 b6 (varE 0)) (consA (isXE a0 b7 (varE 0)) (consA (isXE a0 b8 (varE 0)) (nilA)))))))) (seqS (asgS 1 (bin2 addF (varE 1) (toD (lstO (consA (isXE a0 b9 (varE 0)) (consA (isXE a0 b10 (varE 0)) (consA (isXE a0 b11 (varE 0)) (nilA)))))))) (seqS (appS 1 (isXE a0 b12 (varE 0))) (seqS (asgS 2 (ofD (constE (.str "table load pushes lot body number facts text single unlike undo many +")))) (retS (ofD (joinE (constE (.str " ")) (toD (lcO [3, 4] (bnd (consA (toD (splitE (varE 2) (constE (.str " ")))) (consA (varE 1) (nilA))) zipLF) (tupN 2 (consT (nameT 3) (consT (nameT 4) (nilT)))) (tB (varE 4)) (varE 3)))))))))))
def m__law_known : MS := seqS (asgT (tupN 3 (consT (nameT 0) (consT (nameT 1) (consT (nameT 2) (nilT))))) (tupE (consA (tupE (consA (tupE (consA (constE (.int 2)) (consA (constE (.int 1)) (nilA)))) (consA (tupE (consA (constE (.int 1)) (consA (constE (.int 2)) (nilA)))) (nilA)))) (consA (tupE (consA (tupE (consA (constE (.int 1)) (consA (constE (.int 2)) (nilA)))) (consA (tupE (consA (constE (.int 2)) (consA (constE (.int 1)) (nilA)))) (nilA)))) (consA (tupE (consA (tupE (consA (constE (.int 1)) (consA (constE (.int 0)) (nilA)))) (consA (tupE (consA (constE (.int 0)) (consA (constE (.int 1)) (nilA)))) (nilA)))) (nilA)))))) (retS (ofD (tupE (consA (varE 0) (consA (varE 1) (consA (varE 2) (consA (tupE (consA (tupE (consA (un1 negF (constE (.int 1))) (nilA))) (nilA))) (consA (tupE (consA (tupE (consA (constE (.int 0)) (nilA))) (nilA))) (consA (tupE (consA (tupE (consA (constE (.int 0)) (consA (constE (.int 1)) (nilA)))) (consA (tupE (consA (constE (.int 1)) (consA (constE (.int 0)) (nilA)))) (nilA)))) (nilA))))))))))
def f__law_known : Fn := runDef 3 m__law_known
def m__law_bodies : MS := seqS (asgS 1 (lstO (consA (tupE (nilA)) (nilA)))) (seqS (forS (bnd (consA (varE 0) (nilA)) range1F) (nameT 2) (asgS 1 (bin2 addF (varE 1) (toD (lcO [3] (seqI (varE 1)) (nameT 3) (yesT) (toD (bin2 addF (varE 3) (tupE (consA (varE 2) (nilA)))))))))) (retS (bnd (consA (varE 1) (nilA)) sortF)))
def f__law_bodies : Fn := runDef 4 m__law_bodies
def m__law_det : MS := seqS (ifS (tB (bin2 eqF (lenV 0) (constE (.int 0)))) (retS (ofD (constE (.int 1)))) (nextS)) (seqS (ifS (tB (bin2 eqF (lenV 0) (constE (.int 1)))) (retS (ofD (bin2 atF (ixV 0 (constE (.int 0))) (constE (.int 0))))) (nextS)) (seqS (ifS (tB (bin2 eqF (lenV 0) (constE (.int 2)))) (retS (ofD (bin2 subF (bin2 mulF (bin2 atF (ixV 0 (constE (.int 0))) (constE (.int 0))) (bin2 atF (ixV 0 (constE (.int 1))) (constE (.int 1)))) (bin2 mulF (bin2 atF (ixV 0 (constE (.int 0))) (constE (.int 1))) (bin2 atF (ixV 0 (constE (.int 1))) (constE (.int 0))))))) (nextS)) (seqS (asgS 1 (ofD (constE (.int 0)))) (seqS (forS (bnd (consA (constE (.int 3)) (nilA)) range1F) (nameT 2) (seqS (par3S 3 4 5 (consA (varE 2) (consA (bin2 modF (toD (bin2 addF (varE 2) (constE (.int 1)))) (constE (.int 3))) (consA (bin2 modF (toD (bin2 addF (varE 2) (constE (.int 2)))) (constE (.int 3))) (nilA))))) (seqS (asgS 1 (bin2 addF (varE 1) (bin2 mulF (bin2 mulF (bin2 atF (ixV 0 (constE (.int 0))) (varE 3)) (bin2 atF (ixV 0 (constE (.int 1))) (varE 4))) (bin2 atF (ixV 0 (constE (.int 2))) (varE 5))))) (asgS 1 (ofD (bin2 subF (varE 1) (bin2 mulF (bin2 mulF (bin2 atF (ixV 0 (constE (.int 0))) (varE 3)) (bin2 atF (ixV 0 (constE (.int 1))) (varE 5))) (bin2 atF (ixV 0 (constE (.int 2))) (varE 4))))))))) (retS (takeO 1))))))
def f__law_det : Fn := runDef 6 m__law_det
def m__law_part : MS := retS (lcO [3] (seqI (varE 1)) (nameT 3) (yesT) (toD (lcO [4] (seqI (varE 2)) (nameT 4) (yesT) (bin2 atF (ixV 0 (varE 3)) (varE 4)))))
def f__law_part : Fn := runDef 5 m__law_part
def m__law_minor : MS := retS (callM f__law_det (consV (toD (callM f__law_part (consV (varE 0) (consV (varE 1) (consV (varE 1) (nilV)))))) (nilV)))
def f__law_minor : Fn := runDef 2 m__law_minor
def m__law_is_single : MS := retS (ofD (bin2 eqF (toD (lcO [1] (seqI (toD (callM f__law_bodies (consV (lenV 0) (nilV))))) (nameT 1) (tB (bin2 (cmpF leP) (toD (callM f__law_minor (consV (varE 0) (consV (varE 1) (nilV))))) (constE (.int 0)))) (constE (.int 1)))) (toD (lstO (nilA)))))
def f__law_is_single : Fn := runDef 2 m__law_is_single
def m__law_a_single : MS := seqS (asgS 2 (lstO (nilA))) (seqS (forS (bnd (consA (varE 1) (nilA)) range1F) (nameT 3) (seqS (asgS 4 (lcO [5] (bnd (consA (varE 1) (nilA)) range1F) (nameT 5) (yesT) (bin2 subF (toD (callM f__law_pick (consL 0 (consV (constE (.int 7)) (nilV))))) (constE (.int 3))))) (seqS (putS 4 (varE 3) (bnd (consA (constE (.int 9)) (consA (toD (bin2 addF (bin2 subF (toD (bin2 addF (constE (.int 1)) (bnd (consA (toD (lcV 4 [6] (nameT 6) (yesT) (bnd (consA (varE 6) (nilA)) absF))) (nilA)) sumF))) (bnd (consA (ixV 4 (varE 3)) (nilA)) absF)) (toD (callM f__law_pick (consL 0 (consV (constE (.int 3)) (nilV))))))) (nilA))) minF)) (appS 2 (bnd (consA (varE 4) (nilA)) tupleF))))) (retS (ofD (bnd (consA (varE 2) (nilA)) tupleF))))
def f__law_a_single : Fn := runDef 7 m__law_a_single
def m__law_ends : MS := seqS (asgT (tupN 2 (consT (nameT 2) (consT (nameT 3) (nilT)))) (tupE (consA (lenV 0) (consA (toD (lstO (consA (tupE (nilA)) (nilA)))) (nilA))))) (seqS (forS (bnd (consA (varE 2) (nilA)) range1F) (nameT 4) (forS (bnd (consA (varE 2) (nilA)) range1F) (nameT 5) (seqS (parO 6 7 (bnd (toD (lstO (consA (bin2 atF (ixV 0 (varE 4)) (varE 5)) (consA (bin2 atF (ixV 1 (varE 4)) (varE 5)) (nilA))))) sortSetF) (lstO (nilA))) (seqS (forS (seqI (varE 3)) (nameT 8) (asgS 7 (bin2 addF (varE 7) (toD (lcO [9] (seqI (varE 6)) (nameT 9) (yesT) (toD (bin2 addF (varE 8) (tupE (consA (varE 9) (nilA)))))))))) (asgS 3 (ofD (varE 7))))))) (retS (lcO [8] (seqI (varE 3)) (nameT 8) (yesT) (bnd (consA (toD (lcO [4] (bnd (consA (varE 2) (nilA)) range1F) (nameT 4) (yesT) (toD (slO (varE 8) (part (bin2 mulF (varE 4) (varE 2))) (part (toD (bin2 addF (bin2 mulF (varE 4) (varE 2)) (varE 2)))))))) (nilA)) tupleF))))
def f__law_ends : Fn := runDef 10 m__law_ends
def m__law_bounds : MS := seqS (asgS 2 (callM f__law_a_single (consL 0 (consV (varE 1) (nilV))))) (seqS (parO 3 4 (lstO (nilA)) (lstO (nilA))) (seqS (forS (seqI (varE 2)) (nameT 5) (seqS (parO 6 7 (lstO (nilA)) (lstO (nilA))) (seqS (forS (seqI (varE 5)) (nameT 8) (seqS (parS 9 10 (consA (toD (callM f__law_one (consL 0 (consV (toD (lstO (consA (constE (.int 0)) (consA (constE (.int 0)) (consA (constE (.int 0)) (consA (constE (.int 1)) (consA (constE (.int 2)) (nilA)))))))) (nilV))))) (consA (toD (callM f__law_one (consL 0 (consV (toD (lstO (consA (constE (.int 0)) (consA (constE (.int 0)) (consA (constE (.int 0)) (consA (constE (.int 1)) (consA (constE (.int 4)) (nilA)))))))) (nilV))))) (nilA)))) (seqS (appS 6 (bnd (consA (un1 negF (constE (.int 9))) (consA (bin2 subF (varE 8) (varE 9)) (nilA))) maxF)) (appS 7 (bnd (consA (constE (.int 9)) (consA (toD (bin2 addF (varE 8) (varE 10))) (nilA))) minF))))) (seqS (appS 3 (bnd (consA (varE 6) (nilA)) tupleF)) (appS 4 (bnd (consA (varE 7) (nilA)) tupleF)))))) (retS (ofD (tupE (consA (bnd (consA (varE 3) (nilA)) tupleF) (consA (bnd (consA (varE 4) (nilA)) tupleF) (nilA))))))))
def f__law_bounds : Fn := runDef 11 m__law_bounds
def m__law_between : MS := seqS (asgS 3 (lstO (nilA))) (seqS (forS (bnd (consA (varE 1) (consA (varE 2) (nilA))) zipF) (tupN 2 (consT (nameT 4) (consT (nameT 5) (nilT)))) (appS 3 (bnd (consA (toD (lcO [6, 7] (bnd (consA (varE 4) (consA (varE 5) (nilA))) zipF) (tupN 2 (consT (nameT 6) (consT (nameT 7) (nilT)))) (yesT) (toD (bin2 addF (varE 6) (toD (callM f__law_pick (consL 0 (consV (toD (bin2 addF (bin2 subF (varE 7) (varE 6)) (constE (.int 1)))) (nilV))))))))) (nilA)) tupleF))) (retS (ofD (bnd (consA (varE 3) (nilA)) tupleF))))
def f__law_between : Fn := runDef 8 m__law_between
def m_law : MS := seqS (forS (seqI (toD (slO (toD (bin2 addF (toD (lstO (consA (constE (.int 0)) (nilA)))) (varE 0))) (noPart) (part (constE (.int 10)))))) (nameT 1) (seqS (asgS 2 (callM f__law_deck (consV (varE 1) (consV (constE (.int 8)) (nilV))))) (seqS (forS (seqI (toD (lstO (consA (constE (.int 1)) (consA (constE (.int 2)) (consA (constE (.int 2)) (consA (constE (.int 3)) (nilA)))))))) (nameT 3) (seqS (asgT (tupN 2 (consT (nameT 4) (consT (nameT 5) (nilT)))) (toD (callM f__law_bounds (consL 2 (consV (varE 3) (nilV)))))) (seqS (asgS 6 (lcO [21] (seqI (toD (callM f__law_ends (consV (varE 4) (consV (varE 5) (nilV)))))) (nameT 21) (notT (tB (toD (callM f__law_is_single (consV (varE 21) (nilV)))))) (varE 21))) (seqS (asgS 7 (lstO (consA (toD (callM f_first_bad (consV (varE 4) (consV (varE 5) (nilV))))) (consA (toD (callM f_all_single (consV (varE 4) (consV (varE 5) (nilV))))) (nilA))))) (seqS (ifS (notT (tB (toD (callM (f__law_same 8) (consV (varE 7) (consV (toD (lstO (consA (iteM (tB (bin2 neF (varE 6) (toD (lstO (nilA))))) (ixV 6 (constE (.int 0))) (constE .non)) (consA (bin2 eqF (varE 6) (toD (lstO (nilA)))) (nilA))))) (nilV))))))) (retS (ofD (constE (.bl false)))) (nextS)) (forS (bnd (consA (iteM (tB (bin2 eqF (varE 6) (toD (lstO (nilA))))) (constE (.int 10)) (constE (.int 0))) (nilA)) range1F) (nameT 8) (ifS (notT (tB (toD (callM f_is_single (consV (toD (callM f__law_between (consL 2 (consV (varE 4) (consV (varE 5) (nilV)))))) (nilV)))))) (retS (ofD (constE (.bl false)))) (nextS)))))))) (forS (seqI (tupE (consA (constE (.fn "all_single")) (consA (constE (.fn "first_bad")) (nilA))))) (nameT 9) (seqS (forS (seqI (toD (lstO (consA (constE .non) (consA (tupE (nilA)) (consA (tupE (consA (tupE (consA (constE (.int 1)) (consA (constE (.int 2)) (nilA)))) (nilA))) (consA (toD (slO (varE 4) (noPart) (part (constE (.int 2))))) (consA (toD (bnd (consA (varE 5) (nilA)) listF)) (nilA))))))))) (nameT 10) (seqS (ifS (tB (bin2 neF (toD (tryM kt (callVM 9 [("all_single", f_all_single), ("first_bad", f_first_bad)] (consV (varE 10) (consV (constE .non) (nilV)))))) (constE (.str "table +")))) (retS (ofD (constE (.bl false)))) (nextS)) (ifS (tB (bin2 neF (toD (tryM kt (callVM 9 [("all_single", f_all_single), ("first_bad", f_first_bad)] (consV (varE 4) (consV (varE 10) (nilV)))))) (constE (.str "table +")))) (retS (ofD (constE (.bl false)))) (nextS)))) (seqS (asgS 11 (bin2 addF (tupE (consA (toD (bin2 addF (tupE (consA (bin2 subF (bin2 atF (ixV 4 (constE (.int 0))) (constE (.int 0))) (constE (.int 1))) (nilA))) (toD (slO (ixV 4 (constE (.int 0))) (part (constE (.int 1))) (noPart))))) (nilA))) (toD (slO (varE 4) (part (constE (.int 1))) (noPart))))) (ifS (andT (tB (bin2 (cmpF gtP) (bin2 atF (ixV 4 (constE (.int 0))) (constE (.int 0))) (un1 negF (constE (.int 9))))) (tB (bin2 neF (toD (tryM kt (callVM 9 [("all_single", f_all_single), ("first_bad", f_first_bad)] (consV (varE 4) (consV (varE 11) (nilV)))))) (constE (.str "table +"))))) (retS (ofD (constE (.bl false)))) (nextS)))))))) (seqS (asgT (tupN 6 (consT (nameT 12) (consT (nameT 13) (consT (nameT 14) (consT (nameT 15) (consT (nameT 16) (consT (nameT 17) (nilT)))))))) (toD (callM f__law_known nilV))) (seqS (asgT (tupN 2 (consT (nameT 18) (consT (nameT 19) (nilT)))) (tupE (consA (tupE (consA (tupE (consA (constE (.int 1)) (consA (un1 negF (constE (.int 1))) (nilA)))) (consA (tupE (consA (un1 negF (constE (.int 1))) (consA (constE (.int 1)) (nilA)))) (nilA)))) (consA (tupE (consA (tupE (consA (constE (.int 2)) (consA (constE (.int 1)) (nilA)))) (consA (tupE (consA (constE (.int 1)) (consA (constE (.int 2)) (nilA)))) (nilA)))) (nilA))))) (seqS (asgS 20 (lstO (consA (toD (callM f_all_single (consV (varE 12) (consV (varE 12) (nilV))))) (consA (toD (callM f_all_single (consV (varE 18) (consV (varE 19) (nilV))))) (consA (toD (callM f_all_single (consV (tupE (consA (tupE (consA (constE (.int 2)) (consA (un1 negF (constE (.int 1))) (nilA)))) (consA (tupE (consA (un1 negF (constE (.int 1))) (consA (constE (.int 2)) (nilA)))) (nilA)))) (consV (tupE (consA (tupE (consA (constE (.int 3)) (consA (constE (.int 1)) (nilA)))) (consA (tupE (consA (constE (.int 1)) (consA (constE (.int 3)) (nilA)))) (nilA)))) (nilV))))) (nilA)))))) (seqS (ifS (tB (bin2 neF (varE 20) (toD (lstO (consA (constE (.bl true)) (consA (constE (.bl false)) (consA (constE (.bl true)) (nilA)))))))) (retS (ofD (constE (.bl false)))) (nextS)) (seqS (ifS (tB (bin2 neF (toD (callM f_first_bad (consV (varE 18) (consV (varE 19) (nilV))))) (varE 18))) (retS (ofD (constE (.bl false)))) (nextS)) (seqS (ifS (tB (bin2 neF (toD (callM f_first_bad (consV (varE 12) (consV (tupE (consA (tupE (consA (constE (.int 2)) (consA (constE (.int 4)) (nilA)))) (consA (tupE (consA (constE (.int 1)) (consA (constE (.int 2)) (nilA)))) (nilA)))) (nilV))))) (tupE (consA (tupE (consA (constE (.int 2)) (consA (constE (.int 4)) (nilA)))) (consA (tupE (consA (constE (.int 1)) (consA (constE (.int 2)) (nilA)))) (nilA)))))) (retS (ofD (constE (.bl false)))) (nextS)) (seqS (ifS (tB (bin2 isNotF (toD (callM f_first_bad (consV (varE 12) (consV (varE 12) (nilV))))) (constE .non))) (retS (ofD (constE (.bl false)))) (nextS)) (seqS (ifS (tB (bin2 neF (toD (callM f_first_bad (consV (tupE (consA (tupE (consA (constE (.int 2)) (consA (un1 negF (constE (.int 3))) (nilA)))) (consA (tupE (consA (un1 negF (constE (.int 3))) (consA (constE (.int 2)) (nilA)))) (nilA)))) (consV (tupE (consA (tupE (consA (constE (.int 9)) (consA (constE (.int 3)) (nilA)))) (consA (tupE (consA (constE (.int 3)) (consA (constE (.int 9)) (nilA)))) (nilA)))) (nilV))))) (tupE (consA (tupE (consA (constE (.int 2)) (consA (un1 negF (constE (.int 3))) (nilA)))) (consA (tupE (consA (un1 negF (constE (.int 3))) (consA (constE (.int 2)) (nilA)))) (nilA)))))) (retS (ofD (constE (.bl false)))) (nextS)) (retS (callM f_all_single (consV (tupE (consA (tupE (consA (constE (.int 9)) (consA (un1 negF (constE (.int 9))) (consA (constE (.int 0)) (nilA))))) (consA (tupE (consA (constE (.int 0)) (consA (constE (.int 9)) (consA (un1 negF (constE (.int 9))) (nilA))))) (consA (tupE (consA (constE (.int 0)) (consA (constE (.int 0)) (consA (constE (.int 9)) (nilA))))) (nilA))))) (consV (tupE (consA (tupE (consA (constE (.int 9)) (consA (constE (.int 9)) (consA (constE (.int 9)) (nilA))))) (consA (tupE (consA (constE (.int 0)) (consA (constE (.int 9)) (consA (constE (.int 9)) (nilA))))) (consA (tupE (consA (constE (.int 0)) (consA (constE (.int 0)) (consA (constE (.int 9)) (nilA))))) (nilA))))) (nilV)))))))))))))
def f_law : Fn := runDef 22 m_law
end K08
set_option maxHeartbeats 0

namespace K08
open PySem PySem.Spec PyProof.Rows L2
def top (i : Nat) : Stmt := PySem.Challenge.pw_pushgaps_k08_whole_tables_within_bounds.main.body.getD i (.Pass ⟨0, 0, 0, 0⟩)
abbrev st_is_within : Stmt := top 17
def dd_is_within : He.DefD := ⟨("is_within", none), "is_within", "is_within", defArgs st_is_within, defBody st_is_within, defScope st_is_within, [], []⟩
abbrev st_is_row : Stmt := top 18
def dd_is_row : He.DefD := ⟨("is_row", none), "is_row", "is_row", defArgs st_is_row, defBody st_is_row, defScope st_is_row, [], []⟩
abbrev st_is_table_value : Stmt := top 19
def dd_is_table_value : He.DefD := ⟨("is_table_value", none), "is_table_value", "is_table_value", defArgs st_is_table_value, defBody st_is_table_value, defScope st_is_table_value, [], []⟩
abbrev st_need_table : Stmt := top 20
def dd_need_table : He.DefD := ⟨("need_table", none), "need_table", "need_table", defArgs st_need_table, defBody st_need_table, defScope st_need_table, [], []⟩
abbrev st_lots_of : Stmt := top 21
def dd_lots_of : He.DefD := ⟨("lots_of", none), "lots_of", "lots_of", defArgs st_lots_of, defBody st_lots_of, defScope st_lots_of, [], []⟩
abbrev st_determinant : Stmt := top 22
def dd_determinant : He.DefD := ⟨("determinant", none), "determinant", "determinant", defArgs st_determinant, defBody st_determinant, defScope st_determinant, [], []⟩
abbrev st_minor_of : Stmt := top 23
def dd_minor_of : He.DefD := ⟨("minor_of", none), "minor_of", "minor_of", defArgs st_minor_of, defBody st_minor_of, defScope st_minor_of, [], []⟩
abbrev st_is_single_value : Stmt := top 24
def dd_is_single_value : He.DefD := ⟨("is_single_value", none), "is_single_value", "is_single_value", defArgs st_is_single_value, defBody st_is_single_value, defScope st_is_single_value, [], []⟩
abbrev st_is_single : Stmt := top 25
def dd_is_single : He.DefD := ⟨("is_single", none), "is_single", "is_single", defArgs st_is_single, defBody st_is_single, defScope st_is_single, [], []⟩
abbrev st_need_bounds : Stmt := top 27
def dd_need_bounds : He.DefD := ⟨("need_bounds", none), "need_bounds", "need_bounds", defArgs st_need_bounds, defBody st_need_bounds, defScope st_need_bounds, [], []⟩
abbrev st_rows_within : Stmt := top 28
def dd_rows_within : He.DefD := ⟨("rows_within", none), "rows_within", "rows_within", defArgs st_rows_within, defBody st_rows_within, defScope st_rows_within, [], []⟩
abbrev st_bad_table : Stmt := top 29
def dd_bad_table : He.DefD := ⟨("bad_table", none), "bad_table", "bad_table", defArgs st_bad_table, defBody st_bad_table, defScope st_bad_table, [], []⟩
abbrev st_all_single : Stmt := top 30
def dd_all_single : He.DefD := ⟨("all_single", none), "all_single", "all_single", defArgs st_all_single, defBody st_all_single, defScope st_all_single, [], []⟩
abbrev st_first_bad : Stmt := top 31
def dd_first_bad : He.DefD := ⟨("first_bad", none), "first_bad", "first_bad", defArgs st_first_bad, defBody st_first_bad, defScope st_first_bad, [], []⟩
abbrev st__law_deck : Stmt := top 33
def dd__law_deck : He.DefD := ⟨("_law_deck", none), "_law_deck", "_law_deck", defArgs st__law_deck, defBody st__law_deck, defScope st__law_deck, [], []⟩
abbrev st__law_pick : Stmt := top 34
def dd__law_pick : He.DefD := ⟨("_law_pick", none), "_law_pick", "_law_pick", defArgs st__law_pick, defBody st__law_pick, defScope st__law_pick, [], []⟩
abbrev st__law_one : Stmt := top 35
def dd__law_one : He.DefD := ⟨("_law_one", none), "_law_one", "_law_one", defArgs st__law_one, defBody st__law_one, defScope st__law_one, [], []⟩
abbrev st__law_sort : Stmt := top 36
def dd__law_sort : He.DefD := ⟨("_law_sort", none), "_law_sort", "_law_sort", defArgs st__law_sort, defBody st__law_sort, defScope st__law_sort, [], []⟩
abbrev st__law_same : Stmt := top 37
def dd__law_same : He.DefD := ⟨("_law_same", none), "_law_same", "_law_same", defArgs st__law_same, defBody st__law_same, defScope st__law_same, [], []⟩
abbrev st__law_kin : Stmt := top 38
def dd__law_kin : He.DefD := ⟨("_law_kin", none), "_law_kin", "_law_kin", defArgs st__law_kin, defBody st__law_kin, defScope st__law_kin, [], []⟩
abbrev st__law_try : Stmt := top 39
def dd__law_try : He.DefD := ⟨("_law_try", none), "_law_try", "_law_try", defArgs st__law_try, defBody st__law_try, defScope st__law_try, [], []⟩
abbrev st__law_known : Stmt := top 40
def dd__law_known : He.DefD := ⟨("_law_known", none), "_law_known", "_law_known", defArgs st__law_known, defBody st__law_known, defScope st__law_known, [], []⟩
abbrev st__law_bodies : Stmt := top 41
def dd__law_bodies : He.DefD := ⟨("_law_bodies", none), "_law_bodies", "_law_bodies", defArgs st__law_bodies, defBody st__law_bodies, defScope st__law_bodies, [], []⟩
abbrev st__law_det : Stmt := top 42
def dd__law_det : He.DefD := ⟨("_law_det", none), "_law_det", "_law_det", defArgs st__law_det, defBody st__law_det, defScope st__law_det, [], []⟩
abbrev st__law_part : Stmt := top 43
def dd__law_part : He.DefD := ⟨("_law_part", none), "_law_part", "_law_part", defArgs st__law_part, defBody st__law_part, defScope st__law_part, [], []⟩
abbrev st__law_minor : Stmt := top 44
def dd__law_minor : He.DefD := ⟨("_law_minor", none), "_law_minor", "_law_minor", defArgs st__law_minor, defBody st__law_minor, defScope st__law_minor, [], []⟩
abbrev st__law_is_single : Stmt := top 45
def dd__law_is_single : He.DefD := ⟨("_law_is_single", none), "_law_is_single", "_law_is_single", defArgs st__law_is_single, defBody st__law_is_single, defScope st__law_is_single, [], []⟩
abbrev st__law_a_single : Stmt := top 46
def dd__law_a_single : He.DefD := ⟨("_law_a_single", none), "_law_a_single", "_law_a_single", defArgs st__law_a_single, defBody st__law_a_single, defScope st__law_a_single, [], []⟩
abbrev st__law_ends : Stmt := top 47
def dd__law_ends : He.DefD := ⟨("_law_ends", none), "_law_ends", "_law_ends", defArgs st__law_ends, defBody st__law_ends, defScope st__law_ends, [], []⟩
abbrev st__law_bounds : Stmt := top 48
def dd__law_bounds : He.DefD := ⟨("_law_bounds", none), "_law_bounds", "_law_bounds", defArgs st__law_bounds, defBody st__law_bounds, defScope st__law_bounds, [], []⟩
abbrev st__law_between : Stmt := top 49
def dd__law_between : He.DefD := ⟨("_law_between", none), "_law_between", "_law_between", defArgs st__law_between, defBody st__law_between, defScope st__law_between, [], []⟩
abbrev st_law : Stmt := top 50
def dd_law : He.DefD := ⟨("law", none), "law", "law", defArgs st_law, defBody st_law, defScope st_law, [], []⟩
structure Fx (K : PySem.W.Frag) (mg : Str → Option Value) where
  b_ValueError : mg "ValueError" = none
  b_abs : mg "abs" = none
  b_all : mg "all" = none
  b_any : mg "any" = none
  b_bool : mg "bool" = none
  b_enumerate : mg "enumerate" = none
  b_int : mg "int" = none
  b_isinstance : mg "isinstance" = none
  b_len : mg "len" = none
  b_list : mg "list" = none
  b_max : mg "max" = none
  b_min : mg "min" = none
  b_range : mg "range" = none
  b_set : mg "set" = none
  b_sorted : mg "sorted" = none
  b_str : mg "str" = none
  b_sum : mg "sum" = none
  b_tuple : mg "tuple" = none
  b_zip : mg "zip" = none
  boot_bool : bootBuiltins "bool" = some (.type "bool") := by decide +kernel
  boot_int : bootBuiltins "int" = some (.type "int") := by decide +kernel
  boot_list : bootBuiltins "list" = some (.type "list") := by decide +kernel
  boot_str : bootBuiltins "str" = some (.type "str") := by decide +kernel
  boot_tuple : bootBuiltins "tuple" = some (.type "tuple") := by decide +kernel
  t_MOST_BODIES : Tok
  i_MOST_BODIES : mg "MOST_BODIES" = some (.int 3 t_MOST_BODIES)
  t_MOST_ENTRY : Tok
  i_MOST_ENTRY : mg "MOST_ENTRY" = some (.int 9 t_MOST_ENTRY)
  g_GapError : mg "GapError" = some (.ref (He.ga K "GapError"))
  g_InvalidTable : mg "InvalidTable" = some (.ref (He.ga K "InvalidTable"))
  g_InvalidLoad : mg "InvalidLoad" = some (.ref (He.ga K "InvalidLoad"))
  g_InvalidPushes : mg "InvalidPushes" = some (.ref (He.ga K "InvalidPushes"))
  g_InvalidLot : mg "InvalidLot" = some (.ref (He.ga K "InvalidLot"))
  g_InvalidBody : mg "InvalidBody" = some (.ref (He.ga K "InvalidBody"))
  g_InvalidNumber : mg "InvalidNumber" = some (.ref (He.ga K "InvalidNumber"))
  g_InvalidFacts : mg "InvalidFacts" = some (.ref (He.ga K "InvalidFacts"))
  g_InvalidText : mg "InvalidText" = some (.ref (He.ga K "InvalidText"))
  g_NotSingle : mg "NotSingle" = some (.ref (He.ga K "NotSingle"))
  g_Unlike : mg "Unlike" = some (.ref (He.ga K "Unlike"))
  g_NothingToUndo : mg "NothingToUndo" = some (.ref (He.ga K "NothingToUndo"))
  g_TooMany : mg "TooMany" = some (.ref (He.ga K "TooMany"))
  x_InvalidTable : PySem.W.excIn K (He.ga K "InvalidTable") He.veBase "ValueError.__new__" = true ∧ PySem.W.keepIn K (.ref (He.ga K "InvalidTable")) = true ∧ PySem.W.subIn K (.ref (He.ga K "InvalidTable")) (.type "BaseException") = some true ∧ PySem.W.typeIn K (.ref (He.ga K "InvalidTable")) = some (.type "type")
  x_InvalidLoad : PySem.W.excIn K (He.ga K "InvalidLoad") He.veBase "ValueError.__new__" = true ∧ PySem.W.keepIn K (.ref (He.ga K "InvalidLoad")) = true ∧ PySem.W.subIn K (.ref (He.ga K "InvalidLoad")) (.type "BaseException") = some true ∧ PySem.W.typeIn K (.ref (He.ga K "InvalidLoad")) = some (.type "type")
  x_InvalidPushes : PySem.W.excIn K (He.ga K "InvalidPushes") He.veBase "ValueError.__new__" = true ∧ PySem.W.keepIn K (.ref (He.ga K "InvalidPushes")) = true ∧ PySem.W.subIn K (.ref (He.ga K "InvalidPushes")) (.type "BaseException") = some true ∧ PySem.W.typeIn K (.ref (He.ga K "InvalidPushes")) = some (.type "type")
  x_InvalidLot : PySem.W.excIn K (He.ga K "InvalidLot") He.veBase "ValueError.__new__" = true ∧ PySem.W.keepIn K (.ref (He.ga K "InvalidLot")) = true ∧ PySem.W.subIn K (.ref (He.ga K "InvalidLot")) (.type "BaseException") = some true ∧ PySem.W.typeIn K (.ref (He.ga K "InvalidLot")) = some (.type "type")
  x_InvalidBody : PySem.W.excIn K (He.ga K "InvalidBody") He.veBase "ValueError.__new__" = true ∧ PySem.W.keepIn K (.ref (He.ga K "InvalidBody")) = true ∧ PySem.W.subIn K (.ref (He.ga K "InvalidBody")) (.type "BaseException") = some true ∧ PySem.W.typeIn K (.ref (He.ga K "InvalidBody")) = some (.type "type")
  x_InvalidNumber : PySem.W.excIn K (He.ga K "InvalidNumber") He.veBase "ValueError.__new__" = true ∧ PySem.W.keepIn K (.ref (He.ga K "InvalidNumber")) = true ∧ PySem.W.subIn K (.ref (He.ga K "InvalidNumber")) (.type "BaseException") = some true ∧ PySem.W.typeIn K (.ref (He.ga K "InvalidNumber")) = some (.type "type")
  x_InvalidFacts : PySem.W.excIn K (He.ga K "InvalidFacts") He.veBase "ValueError.__new__" = true ∧ PySem.W.keepIn K (.ref (He.ga K "InvalidFacts")) = true ∧ PySem.W.subIn K (.ref (He.ga K "InvalidFacts")) (.type "BaseException") = some true ∧ PySem.W.typeIn K (.ref (He.ga K "InvalidFacts")) = some (.type "type")
  x_InvalidText : PySem.W.excIn K (He.ga K "InvalidText") He.veBase "ValueError.__new__" = true ∧ PySem.W.keepIn K (.ref (He.ga K "InvalidText")) = true ∧ PySem.W.subIn K (.ref (He.ga K "InvalidText")) (.type "BaseException") = some true ∧ PySem.W.typeIn K (.ref (He.ga K "InvalidText")) = some (.type "type")
  x_NotSingle : PySem.W.excIn K (He.ga K "NotSingle") He.veBase "ValueError.__new__" = true ∧ PySem.W.keepIn K (.ref (He.ga K "NotSingle")) = true ∧ PySem.W.subIn K (.ref (He.ga K "NotSingle")) (.type "BaseException") = some true ∧ PySem.W.typeIn K (.ref (He.ga K "NotSingle")) = some (.type "type")
  x_Unlike : PySem.W.excIn K (He.ga K "Unlike") He.veBase "ValueError.__new__" = true ∧ PySem.W.keepIn K (.ref (He.ga K "Unlike")) = true ∧ PySem.W.subIn K (.ref (He.ga K "Unlike")) (.type "BaseException") = some true ∧ PySem.W.typeIn K (.ref (He.ga K "Unlike")) = some (.type "type")
  x_NothingToUndo : PySem.W.excIn K (He.ga K "NothingToUndo") He.veBase "ValueError.__new__" = true ∧ PySem.W.keepIn K (.ref (He.ga K "NothingToUndo")) = true ∧ PySem.W.subIn K (.ref (He.ga K "NothingToUndo")) (.type "BaseException") = some true ∧ PySem.W.typeIn K (.ref (He.ga K "NothingToUndo")) = some (.type "type")
  g_is_within : mg "is_within" = some (.ref (He.fAd K ("is_within", none)))
  fd_is_within : FuncData
  F_is_within : FunD K "is_within" "is_within" (defArgs st_is_within) (defBody st_is_within) (defScope st_is_within) [] [] (He.fAd K ("is_within", none)) fd_is_within
  g_is_row : mg "is_row" = some (.ref (He.fAd K ("is_row", none)))
  fd_is_row : FuncData
  F_is_row : FunD K "is_row" "is_row" (defArgs st_is_row) (defBody st_is_row) (defScope st_is_row) [] [] (He.fAd K ("is_row", none)) fd_is_row
  g_is_table_value : mg "is_table_value" = some (.ref (He.fAd K ("is_table_value", none)))
  fd_is_table_value : FuncData
  F_is_table_value : FunD K "is_table_value" "is_table_value" (defArgs st_is_table_value) (defBody st_is_table_value) (defScope st_is_table_value) [] [] (He.fAd K ("is_table_value", none)) fd_is_table_value
  g_need_table : mg "need_table" = some (.ref (He.fAd K ("need_table", none)))
  fd_need_table : FuncData
  F_need_table : FunD K "need_table" "need_table" (defArgs st_need_table) (defBody st_need_table) (defScope st_need_table) [] [] (He.fAd K ("need_table", none)) fd_need_table
  g_lots_of : mg "lots_of" = some (.ref (He.fAd K ("lots_of", none)))
  fd_lots_of : FuncData
  F_lots_of : FunD K "lots_of" "lots_of" (defArgs st_lots_of) (defBody st_lots_of) (defScope st_lots_of) [] [] (He.fAd K ("lots_of", none)) fd_lots_of
  g_determinant : mg "determinant" = some (.ref (He.fAd K ("determinant", none)))
  fd_determinant : FuncData
  F_determinant : FunD K "determinant" "determinant" (defArgs st_determinant) (defBody st_determinant) (defScope st_determinant) [] [] (He.fAd K ("determinant", none)) fd_determinant
  g_minor_of : mg "minor_of" = some (.ref (He.fAd K ("minor_of", none)))
  fd_minor_of : FuncData
  F_minor_of : FunD K "minor_of" "minor_of" (defArgs st_minor_of) (defBody st_minor_of) (defScope st_minor_of) [] [] (He.fAd K ("minor_of", none)) fd_minor_of
  g_is_single_value : mg "is_single_value" = some (.ref (He.fAd K ("is_single_value", none)))
  fd_is_single_value : FuncData
  F_is_single_value : FunD K "is_single_value" "is_single_value" (defArgs st_is_single_value) (defBody st_is_single_value) (defScope st_is_single_value) [] [] (He.fAd K ("is_single_value", none)) fd_is_single_value
  g_is_single : mg "is_single" = some (.ref (He.fAd K ("is_single", none)))
  fd_is_single : FuncData
  F_is_single : FunD K "is_single" "is_single" (defArgs st_is_single) (defBody st_is_single) (defScope st_is_single) [] [] (He.fAd K ("is_single", none)) fd_is_single
  g_need_bounds : mg "need_bounds" = some (.ref (He.fAd K ("need_bounds", none)))
  fd_need_bounds : FuncData
  F_need_bounds : FunD K "need_bounds" "need_bounds" (defArgs st_need_bounds) (defBody st_need_bounds) (defScope st_need_bounds) [] [] (He.fAd K ("need_bounds", none)) fd_need_bounds
  g_rows_within : mg "rows_within" = some (.ref (He.fAd K ("rows_within", none)))
  fd_rows_within : FuncData
  F_rows_within : FunD K "rows_within" "rows_within" (defArgs st_rows_within) (defBody st_rows_within) (defScope st_rows_within) [] [] (He.fAd K ("rows_within", none)) fd_rows_within
  g_bad_table : mg "bad_table" = some (.ref (He.fAd K ("bad_table", none)))
  fd_bad_table : FuncData
  F_bad_table : FunD K "bad_table" "bad_table" (defArgs st_bad_table) (defBody st_bad_table) (defScope st_bad_table) [] [] (He.fAd K ("bad_table", none)) fd_bad_table
  g_all_single : mg "all_single" = some (.ref (He.fAd K ("all_single", none)))
  fd_all_single : FuncData
  F_all_single : FunD K "all_single" "all_single" (defArgs st_all_single) (defBody st_all_single) (defScope st_all_single) [] [] (He.fAd K ("all_single", none)) fd_all_single
  g_first_bad : mg "first_bad" = some (.ref (He.fAd K ("first_bad", none)))
  fd_first_bad : FuncData
  F_first_bad : FunD K "first_bad" "first_bad" (defArgs st_first_bad) (defBody st_first_bad) (defScope st_first_bad) [] [] (He.fAd K ("first_bad", none)) fd_first_bad
  g__law_deck : mg "_law_deck" = some (.ref (He.fAd K ("_law_deck", none)))
  fd__law_deck : FuncData
  F__law_deck : FunD K "_law_deck" "_law_deck" (defArgs st__law_deck) (defBody st__law_deck) (defScope st__law_deck) [] [] (He.fAd K ("_law_deck", none)) fd__law_deck
  g__law_pick : mg "_law_pick" = some (.ref (He.fAd K ("_law_pick", none)))
  fd__law_pick : FuncData
  F__law_pick : FunD K "_law_pick" "_law_pick" (defArgs st__law_pick) (defBody st__law_pick) (defScope st__law_pick) [] [] (He.fAd K ("_law_pick", none)) fd__law_pick
  g__law_one : mg "_law_one" = some (.ref (He.fAd K ("_law_one", none)))
  fd__law_one : FuncData
  F__law_one : FunD K "_law_one" "_law_one" (defArgs st__law_one) (defBody st__law_one) (defScope st__law_one) [] [] (He.fAd K ("_law_one", none)) fd__law_one
  g__law_sort : mg "_law_sort" = some (.ref (He.fAd K ("_law_sort", none)))
  fd__law_sort : FuncData
  F__law_sort : FunD K "_law_sort" "_law_sort" (defArgs st__law_sort) (defBody st__law_sort) (defScope st__law_sort) [] [] (He.fAd K ("_law_sort", none)) fd__law_sort
  g__law_same : mg "_law_same" = some (.ref (He.fAd K ("_law_same", none)))
  fd__law_same : FuncData
  F__law_same : FunD K "_law_same" "_law_same" (defArgs st__law_same) (defBody st__law_same) (defScope st__law_same) [] [] (He.fAd K ("_law_same", none)) fd__law_same
  g__law_kin : mg "_law_kin" = some (.ref (He.fAd K ("_law_kin", none)))
  fd__law_kin : FuncData
  F__law_kin : FunD K "_law_kin" "_law_kin" (defArgs st__law_kin) (defBody st__law_kin) (defScope st__law_kin) [] [] (He.fAd K ("_law_kin", none)) fd__law_kin
  g__law_try : mg "_law_try" = some (.ref (He.fAd K ("_law_try", none)))
  fd__law_try : FuncData
  F__law_try : FunD K "_law_try" "_law_try" (defArgs st__law_try) (defBody st__law_try) (defScope st__law_try) [] [] (He.fAd K ("_law_try", none)) fd__law_try
  g__law_known : mg "_law_known" = some (.ref (He.fAd K ("_law_known", none)))
  fd__law_known : FuncData
  F__law_known : FunD K "_law_known" "_law_known" (defArgs st__law_known) (defBody st__law_known) (defScope st__law_known) [] [] (He.fAd K ("_law_known", none)) fd__law_known
  g__law_bodies : mg "_law_bodies" = some (.ref (He.fAd K ("_law_bodies", none)))
  fd__law_bodies : FuncData
  F__law_bodies : FunD K "_law_bodies" "_law_bodies" (defArgs st__law_bodies) (defBody st__law_bodies) (defScope st__law_bodies) [] [] (He.fAd K ("_law_bodies", none)) fd__law_bodies
  g__law_det : mg "_law_det" = some (.ref (He.fAd K ("_law_det", none)))
  fd__law_det : FuncData
  F__law_det : FunD K "_law_det" "_law_det" (defArgs st__law_det) (defBody st__law_det) (defScope st__law_det) [] [] (He.fAd K ("_law_det", none)) fd__law_det
  g__law_part : mg "_law_part" = some (.ref (He.fAd K ("_law_part", none)))
  fd__law_part : FuncData
  F__law_part : FunD K "_law_part" "_law_part" (defArgs st__law_part) (defBody st__law_part) (defScope st__law_part) [] [] (He.fAd K ("_law_part", none)) fd__law_part
  g__law_minor : mg "_law_minor" = some (.ref (He.fAd K ("_law_minor", none)))
  fd__law_minor : FuncData
  F__law_minor : FunD K "_law_minor" "_law_minor" (defArgs st__law_minor) (defBody st__law_minor) (defScope st__law_minor) [] [] (He.fAd K ("_law_minor", none)) fd__law_minor
  g__law_is_single : mg "_law_is_single" = some (.ref (He.fAd K ("_law_is_single", none)))
  fd__law_is_single : FuncData
  F__law_is_single : FunD K "_law_is_single" "_law_is_single" (defArgs st__law_is_single) (defBody st__law_is_single) (defScope st__law_is_single) [] [] (He.fAd K ("_law_is_single", none)) fd__law_is_single
  g__law_a_single : mg "_law_a_single" = some (.ref (He.fAd K ("_law_a_single", none)))
  fd__law_a_single : FuncData
  F__law_a_single : FunD K "_law_a_single" "_law_a_single" (defArgs st__law_a_single) (defBody st__law_a_single) (defScope st__law_a_single) [] [] (He.fAd K ("_law_a_single", none)) fd__law_a_single
  g__law_ends : mg "_law_ends" = some (.ref (He.fAd K ("_law_ends", none)))
  fd__law_ends : FuncData
  F__law_ends : FunD K "_law_ends" "_law_ends" (defArgs st__law_ends) (defBody st__law_ends) (defScope st__law_ends) [] [] (He.fAd K ("_law_ends", none)) fd__law_ends
  g__law_bounds : mg "_law_bounds" = some (.ref (He.fAd K ("_law_bounds", none)))
  fd__law_bounds : FuncData
  F__law_bounds : FunD K "_law_bounds" "_law_bounds" (defArgs st__law_bounds) (defBody st__law_bounds) (defScope st__law_bounds) [] [] (He.fAd K ("_law_bounds", none)) fd__law_bounds
  g__law_between : mg "_law_between" = some (.ref (He.fAd K ("_law_between", none)))
  fd__law_between : FuncData
  F__law_between : FunD K "_law_between" "_law_between" (defArgs st__law_between) (defBody st__law_between) (defScope st__law_between) [] [] (He.fAd K ("_law_between", none)) fd__law_between
  g_law : mg "law" = some (.ref (He.fAd K ("law", none)))
  fd_law : FuncData
  F_law : FunD K "law" "law" (defArgs st_law) (defBody st_law) (defScope st_law) [] [] (He.fAd K ("law", none)) fd_law
structure KinRow (K : PySem.W.Frag) (x : Str) : Prop where
  C : ExcC K (He.ga K x)
  k0 : PySem.W.kitOne K (.ref (He.ga K x)) (.ref (He.ga K "InvalidTable")) = some (x == ("InvalidTable" : Str))
  k1 : PySem.W.kitOne K (.ref (He.ga K x)) (.ref (He.ga K "InvalidLoad")) = some (x == ("InvalidLoad" : Str))
  k2 : PySem.W.kitOne K (.ref (He.ga K x)) (.ref (He.ga K "InvalidPushes")) = some (x == ("InvalidPushes" : Str))
  k3 : PySem.W.kitOne K (.ref (He.ga K x)) (.ref (He.ga K "InvalidLot")) = some (x == ("InvalidLot" : Str))
  k4 : PySem.W.kitOne K (.ref (He.ga K x)) (.ref (He.ga K "InvalidBody")) = some (x == ("InvalidBody" : Str))
  k5 : PySem.W.kitOne K (.ref (He.ga K x)) (.ref (He.ga K "InvalidNumber")) = some (x == ("InvalidNumber" : Str))
  k6 : PySem.W.kitOne K (.ref (He.ga K x)) (.ref (He.ga K "InvalidFacts")) = some (x == ("InvalidFacts" : Str))
  k7 : PySem.W.kitOne K (.ref (He.ga K x)) (.ref (He.ga K "InvalidText")) = some (x == ("InvalidText" : Str))
  k8 : PySem.W.kitOne K (.ref (He.ga K x)) (.ref (He.ga K "NotSingle")) = some (x == ("NotSingle" : Str))
  k9 : PySem.W.kitOne K (.ref (He.ga K x)) (.ref (He.ga K "Unlike")) = some (x == ("Unlike" : Str))
  k10 : PySem.W.kitOne K (.ref (He.ga K x)) (.ref (He.ga K "NothingToUndo")) = some (x == ("NothingToUndo" : Str))
  k11 : PySem.W.kitOne K (.ref (He.ga K x)) (.ref (He.ga K "TooMany")) = some (x == ("TooMany" : Str))
  k12 : PySem.W.kitOne K (.ref (He.ga K x)) (.type "ValueError") = some true
  tm : PySem.W.exmOne K (.ref (He.ga K x)) (.ref (He.ga K "TooMany")) = some false
  ge : PySem.W.exmOne K (.ref (He.ga K x)) (.ref (He.ga K "GapError")) = some true
end K08
set_option maxHeartbeats 0

namespace K08
open PySem PySem.Spec PyProof.Rows L2 DL
section
variable {P : Program} {w : World} {K : PySem.W.Frag} {mg : Str → Option Value} {base : Heap} {T : Tab}
theorem bd_is_within (G : Fx K mg) : Binds K G.fd_is_within ["value", "low", "high"] [] := G.F_is_within.bindsN fun _ _ _ _ _ _ us hl => match us, hl with | [_, _, _], _ => rfl
theorem bd_is_row (G : Fx K mg) : Binds K G.fd_is_row ["value", "size", "most"] [] := G.F_is_row.bindsN fun _ _ _ _ _ _ us hl => match us, hl with | [_, _, _], _ => rfl
theorem bd_is_table_value (G : Fx K mg) : Binds K G.fd_is_table_value ["value"] [] := G.F_is_table_value.bindsN fun _ _ _ _ _ _ us hl => match us, hl with | [_], _ => rfl
theorem bd_need_table (G : Fx K mg) : Binds K G.fd_need_table ["value"] [] := G.F_need_table.bindsN fun _ _ _ _ _ _ us hl => match us, hl with | [_], _ => rfl
theorem bd_lots_of (G : Fx K mg) : Binds K G.fd_lots_of ["size"] [] := G.F_lots_of.bindsN fun _ _ _ _ _ _ us hl => match us, hl with | [_], _ => rfl
theorem bd_determinant (G : Fx K mg) : Binds K G.fd_determinant ["rows"] [] := G.F_determinant.bindsN fun _ _ _ _ _ _ us hl => match us, hl with | [_], _ => rfl
theorem bd_minor_of (G : Fx K mg) : Binds K G.fd_minor_of ["table", "lot"] [] := G.F_minor_of.bindsN fun _ _ _ _ _ _ us hl => match us, hl with | [_, _], _ => rfl
theorem bd_is_single_value (G : Fx K mg) : Binds K G.fd_is_single_value ["table"] [] := G.F_is_single_value.bindsN fun _ _ _ _ _ _ us hl => match us, hl with | [_], _ => rfl
theorem bd_is_single (G : Fx K mg) : Binds K G.fd_is_single ["table"] [] := G.F_is_single.bindsN fun _ _ _ _ _ _ us hl => match us, hl with | [_], _ => rfl
theorem bd_need_bounds (G : Fx K mg) : Binds K G.fd_need_bounds ["low", "high"] [] := G.F_need_bounds.bindsN fun _ _ _ _ _ _ us hl => match us, hl with | [_, _], _ => rfl
theorem bd_rows_within (G : Fx K mg) : Binds K G.fd_rows_within ["low", "high"] [] := G.F_rows_within.bindsN fun _ _ _ _ _ _ us hl => match us, hl with | [_, _], _ => rfl
theorem bd_bad_table (G : Fx K mg) : Binds K G.fd_bad_table ["low", "high"] [] := G.F_bad_table.bindsN fun _ _ _ _ _ _ us hl => match us, hl with | [_, _], _ => rfl
theorem bd_all_single (G : Fx K mg) : Binds K G.fd_all_single ["low", "high"] [] := G.F_all_single.bindsN fun _ _ _ _ _ _ us hl => match us, hl with | [_, _], _ => rfl
theorem bd_first_bad (G : Fx K mg) : Binds K G.fd_first_bad ["low", "high"] [] := G.F_first_bad.bindsN fun _ _ _ _ _ _ us hl => match us, hl with | [_, _], _ => rfl
theorem bd__law_deck (G : Fx K mg) : Binds K G.fd__law_deck ["cell", "turn"] [] := G.F__law_deck.bindsN fun _ _ _ _ _ _ us hl => match us, hl with | [_, _], _ => rfl
theorem bd__law_pick (G : Fx K mg) : Binds K G.fd__law_pick ["deck", "size"] [] := G.F__law_pick.bindsN fun _ _ _ _ _ _ us hl => match us, hl with | [_, _], _ => rfl
theorem bd__law_one (G : Fx K mg) : Binds K G.fd__law_one ["deck", "some"] [] := G.F__law_one.bindsN fun _ _ _ _ _ _ us hl => match us, hl with | [_, _], _ => rfl
theorem bd__law_sort (G : Fx K mg) : Binds K G.fd__law_sort ["thing"] [] := G.F__law_sort.bindsN fun _ _ _ _ _ _ us hl => match us, hl with | [_], _ => rfl
theorem bd__law_same (G : Fx K mg) : Binds K G.fd__law_same ["told", "due"] [] := G.F__law_same.bindsN fun _ _ _ _ _ _ us hl => match us, hl with | [_, _], _ => rfl
theorem bd__law_kin (G : Fx K mg) : Binds K G.fd__law_kin ["e"] [] := G.F__law_kin.bindsN fun _ _ _ _ _ _ us hl => match us, hl with | [_], _ => rfl
theorem bd__law_try (G : Fx K mg) : Binds K G.fd__law_try ["call_so"] [] := G.F__law_try.bindsN fun _ _ _ _ _ _ us hl => match us, hl with | [_], _ => rfl
theorem bd__law_known (G : Fx K mg) : Binds K G.fd__law_known [] [] := G.F__law_known.bindsN fun _ _ _ _ _ _ us hl => match us, hl with | [], _ => rfl
theorem bd__law_bodies (G : Fx K mg) : Binds K G.fd__law_bodies ["many"] [] := G.F__law_bodies.bindsN fun _ _ _ _ _ _ us hl => match us, hl with | [_], _ => rfl
theorem bd__law_det (G : Fx K mg) : Binds K G.fd__law_det ["rows"] [] := G.F__law_det.bindsN fun _ _ _ _ _ _ us hl => match us, hl with | [_], _ => rfl
theorem bd__law_part (G : Fx K mg) : Binds K G.fd__law_part ["table_so", "rows", "columns"] [] := G.F__law_part.bindsN fun _ _ _ _ _ _ us hl => match us, hl with | [_, _, _], _ => rfl
theorem bd__law_minor (G : Fx K mg) : Binds K G.fd__law_minor ["table_so", "lot_so"] [] := G.F__law_minor.bindsN fun _ _ _ _ _ _ us hl => match us, hl with | [_, _], _ => rfl
theorem bd__law_is_single (G : Fx K mg) : Binds K G.fd__law_is_single ["table_so"] [] := G.F__law_is_single.bindsN fun _ _ _ _ _ _ us hl => match us, hl with | [_], _ => rfl
theorem bd__law_a_single (G : Fx K mg) : Binds K G.fd__law_a_single ["deck", "many"] [] := G.F__law_a_single.bindsN fun _ _ _ _ _ _ us hl => match us, hl with | [_, _], _ => rfl
theorem bd__law_ends (G : Fx K mg) : Binds K G.fd__law_ends ["low", "high"] [] := G.F__law_ends.bindsN fun _ _ _ _ _ _ us hl => match us, hl with | [_, _], _ => rfl
theorem bd__law_bounds (G : Fx K mg) : Binds K G.fd__law_bounds ["deck", "many"] [] := G.F__law_bounds.bindsN fun _ _ _ _ _ _ us hl => match us, hl with | [_, _], _ => rfl
theorem bd__law_between (G : Fx K mg) : Binds K G.fd__law_between ["deck", "low", "high"] [] := G.F__law_between.bindsN fun _ _ _ _ _ _ us hl => match us, hl with | [_, _, _], _ => rfl
theorem bd_law (G : Fx K mg) : Binds K G.fd_law ["script"] [] := G.F_law.bindsN fun _ _ _ _ _ _ us hl => match us, hl with | [_], _ => rfl
theorem sc_is_within : FnScope ["value", "low", "high"] ["value", "low", "high"] (defScope st_is_within) := ⟨rfl, rfl, rfl, by decide +kernel, rfl, by decide +kernel, by decide +kernel⟩
theorem w_is_within (G : Fx K mg) : FnD P w K mg base T 2 (He.fAd K ("is_within", none)) G.fd_is_within ["value", "low", "high"] f_is_within :=
  fnD_D G.F_is_within sc_is_within fun cdv A outer s H E hr tk => by
    have hu := hr.units
    have S := sc_is_within
    exact (dss_one (ds_ret (de_oe (de_and (de_isi .int G.b_isinstance (de_var (vl (i := 0) rfl)) (pe_tn .int G.b_int G.boot_int)) (de_and (de_not (de_isi .bl G.b_isinstance (de_var (vl (i := 0) rfl)) (pe_tn .bl G.b_bool G.boot_bool))) (de_one (de_chain op_le r_le op_le r_le (de_var (vl (i := 1) rfl)) (de_var (vl (i := 0) rfl)) (de_var (vl (i := 2) rfl)))))))))
theorem sc_is_row : FnScope ["value", "size", "most", "number"] ["value", "size", "most"] (defScope st_is_row) := ⟨rfl, rfl, rfl, by decide +kernel, rfl, by decide +kernel, by decide +kernel⟩
theorem w_is_row (G : Fx K mg) : FnD P w K mg base T 3 (He.fAd K ("is_row", none)) G.fd_is_row ["value", "size", "most"] f_is_row :=
  fnD_D G.F_is_row sc_is_row fun cdv A outer s H E hr tk => by
    have hu := hr.units
    have S := sc_is_row
    exact (dss_cons (ds_if (dt_w (dw_or (dt_not (dt_val (de_isi .tup G.b_isinstance (de_var (vl (i := 0) rfl)) (pe_tn .tup G.b_tuple G.boot_tuple)))) (dw_or1 (dt_ne hu (de_lenV G.b_len (vl (i := 0) rfl)) (de_var (vl (i := 1) rfl)))))) (dss_one (ds_ret (de_oe de_bl))) dss_nil) (dss_one (ds_ret (de_oe (de_all rfl G.b_all (da_cons (oe_de (oe_lc (own := [("number", 3)]) rfl S.nd (di_seq (de_var (vl (i := 0) rfl))) (blkOk_by rfl) (fun _ _ _ _ _ => (dg_name (i := 3) S.nd rfl (.inl rfl) (by decide))) (fun _ _ _ _ _ => pts_yes) (fun _ _ _ _ _ => (oe_de (oe_call (w_is_within G) (hr.mono (by omega)) rfl G.g_is_within G.F_is_within.kp (bd_is_within G) takesF (dv_cons (de_var (vl (i := 3) rfl)) (dv_cons (de_neg (de_var (vc (i := 2) rfl))) (dv_cons (de_var (vc (i := 2) rfl)) dv_nil)))))))) da_nil))))))
theorem sc_is_table_value : FnScope ["value", "row"] ["value"] (defScope st_is_table_value) := ⟨rfl, rfl, rfl, by decide +kernel, rfl, by decide +kernel, by decide +kernel⟩
theorem w_is_table_value (G : Fx K mg) : FnD P w K mg base T 4 (He.fAd K ("is_table_value", none)) G.fd_is_table_value ["value"] f_is_table_value :=
  fnD_D G.F_is_table_value sc_is_table_value fun cdv A outer s H E hr tk => by
    have hu := hr.units
    have S := sc_is_table_value
    exact (dss_cons (ds_if (dt_w (dw_or (dt_not (dt_val (de_isi .tup G.b_isinstance (de_var (vc (i := 0) rfl)) (pe_tn .tup G.b_tuple G.boot_tuple)))) (dw_or1 (dt_not (dt_chain op_le r_le op_le r_le de_int (de_lenV G.b_len (vc (i := 0) rfl)) (de_globI rfl G.i_MOST_BODIES)))))) (dss_one (ds_ret (de_oe de_bl))) dss_nil) (dss_one (ds_ret (de_oe (de_all rfl G.b_all (da_cons (oe_de (oe_lc (own := [("row", 1)]) rfl S.nd (di_seq (de_var (vc (i := 0) rfl))) (blkOk_by rfl) (fun _ _ _ _ _ => (dg_name (i := 1) S.nd rfl (.inl rfl) (by decide))) (fun _ _ _ _ _ => pts_yes) (fun _ _ _ _ _ => (oe_de (oe_call (w_is_row G) (hr.mono (by omega)) rfl G.g_is_row G.F_is_row.kp (bd_is_row G) takesF (dv_cons (de_var (vl (i := 1) rfl)) (dv_cons (de_lenV G.b_len (vc (i := 0) rfl)) (dv_cons (de_globI rfl G.i_MOST_ENTRY) dv_nil)))))))) da_nil))))))
theorem sc_need_table : FnScope ["value"] ["value"] (defScope st_need_table) := ⟨rfl, rfl, rfl, by decide +kernel, rfl, by decide +kernel, by decide +kernel⟩
theorem w_need_table (G : Fx K mg) : FnD P w K mg base T 5 (He.fAd K ("need_table", none)) G.fd_need_table ["value"] f_need_table :=
  fnD_D G.F_need_table sc_need_table fun cdv A outer s H E hr tk => by
    have hu := hr.units
    have S := sc_need_table
    exact (dss_one (ds_if (dt_not (dt_val (oe_de (oe_call (w_is_table_value G) (hr.mono (by omega)) rfl G.g_is_table_value G.F_is_table_value.kp (bd_is_table_value G) tk (dv_cons (de_var (vl (i := 0) rfl)) dv_nil))))) (dss_one (ds_raise rfl tk G.g_InvalidTable G.x_InvalidTable.1 G.x_InvalidTable.2.1 G.x_InvalidTable.2.2.1 G.x_InvalidTable.2.2.2)) dss_nil))
theorem sc_lots_of : FnScope ["size", "found", "body", "lot"] ["size"] (defScope st_lots_of) := ⟨rfl, rfl, rfl, by decide +kernel, rfl, by decide +kernel, by decide +kernel⟩
theorem w_lots_of (G : Fx K mg) : FnD P w K mg base T 2 (He.fAd K ("lots_of", none)) G.fd_lots_of ["size"] f_lots_of :=
  fnD_D G.F_lots_of sc_lots_of fun cdv A outer s H E hr tk => by
    have hu := hr.units
    have S := sc_lots_of
    exact (dss_cons (ds_set (i := 1) S.nd rfl (.inl rfl) (oe_lst (da_cons (de_tup da_nil) da_nil))) (dss_cons (ds_for (own := [2]) (passes_of rfl) rfl (di_range1 G.b_range (da_cons (de_var (vl (i := 0) rfl)) da_nil)) (dg_name (i := 2) S.nd rfl (.inr rfl) (by decide)) (dss_one (ds_set (i := 1) S.nd rfl (.inl rfl) (oe_add (de_var (vl (i := 1) rfl)) (oe_de (oe_lc (own := [("lot", 3)]) rfl S.nd (di_seq (de_var (vl (i := 1) rfl))) (blkOk_by rfl) (fun _ _ _ _ _ => (dg_name (i := 3) S.nd rfl (.inl rfl) (by decide))) (fun _ _ _ _ _ => pts_yes) (fun _ _ _ _ _ => (oe_de (oe_add (de_var (vl (i := 3) rfl)) (de_tup (da_cons (de_var (vc (i := 2) rfl)) da_nil))))))))))) (dss_one (ds_ret (oe_sorted hu G.b_sorted (da_cons (de_var (vl (i := 1) rfl)) da_nil))))))
theorem sc_determinant : FnScope ["rows", "found", "sign", "column", "number", "rest", "row"] ["rows"] (defScope st_determinant) := ⟨rfl, rfl, rfl, by decide +kernel, rfl, by decide +kernel, by decide +kernel⟩
theorem w_determinant (G : Fx K mg) : ∀ n : Nat, FnD P w K mg base T (n + 1) (He.fAd K ("determinant", none)) G.fd_determinant ["rows"] (f_determinant n)
  | 0 => FnD.never
  | n + 1 => fnD_D (k := n + 1) G.F_determinant sc_determinant fun cdv A outer s H E hr tk => by
    have hu := hr.units
    have S := sc_determinant
    have ih := w_determinant G n
    exact (dss_cons (ds_if (dt_eq hu (de_var (vl (i := 0) rfl)) (oe_de (oe_lst da_nil))) (dss_one (ds_ret (de_oe de_int))) dss_nil) (dss_cons (ds_asg (own := [1, 2]) (de_tup (da_cons de_int (da_cons de_int da_nil))) (dg_tup rfl (dgs_cons (dg_name (i := 1) S.nd rfl (.inl rfl) (by decide)) (dgs_cons (dg_name (i := 2) S.nd rfl (.inl rfl) (by decide)) dgs_nil)))) (dss_cons (ds_for (own := [3, 4]) (passes_of rfl) rfl (di_enum G.b_enumerate (da_cons (de_ixV (vl (i := 0) rfl) de_int) da_nil)) (dg_tup rfl (dgs_cons (dg_name (i := 3) S.nd rfl (.inr rfl) (by decide)) (dgs_cons (dg_name (i := 4) S.nd rfl (.inl rfl) (by decide)) dgs_nil))) (dss_cons (ds_setLc (i := 5) (own := [("row", 6)]) rfl S.nd rfl rfl (sw_true rfl rfl rfl rfl) (di_seq (oe_de (oe_slice (de_var (vl (i := 0) rfl)) (dp_some de_int) dp_none))) (blkOk_by rfl) (fun _ _ _ _ _ => (dg_name (i := 6) S.nd rfl (.inl rfl) (by decide))) (fun _ _ _ _ _ => pts_yes) (fun _ _ _ _ _ => (oe_de (oe_add (oe_de (oe_slice (de_var (vl (i := 6) rfl)) dp_none (dp_some (de_var (vc (i := 3) rfl))))) (oe_de (oe_slice (de_var (vl (i := 6) rfl)) (dp_some (oe_de (oe_add (de_var (vc (i := 3) rfl)) de_int))) dp_none)))))) (dss_cons (ds_set (i := 1) S.nd rfl (.inl rfl) (oe_add (de_var (vl (i := 1) rfl)) (de_mul (de_mul (de_var (vl (i := 2) rfl)) (de_var (vl (i := 4) rfl))) (oe_de (oe_call ih (hr.mono (by omega)) rfl G.g_determinant G.F_determinant.kp (bd_determinant G) tk (dv_cons (de_var (vl (i := 5) rfl)) dv_nil)))))) (dss_one (ds_set (i := 2) S.nd rfl (.inl rfl) (de_oe (de_neg (de_var (vl (i := 2) rfl))))))))) (dss_one (ds_ret (oe_take (vl (i := 1) rfl)))))))
theorem sc_minor_of : FnScope ["table", "lot", "row", "column"] ["table", "lot"] (defScope st_minor_of) := ⟨rfl, rfl, rfl, by decide +kernel, rfl, by decide +kernel, by decide +kernel⟩
theorem w_minor_of (G : Fx K mg) : FnD P w K mg base T 7 (He.fAd K ("minor_of", none)) G.fd_minor_of ["table", "lot"] f_minor_of :=
  fnD_D G.F_minor_of sc_minor_of fun cdv A outer s H E hr tk => by
    have hu := hr.units
    have S := sc_minor_of
    exact (dss_one (ds_ret (oe_call (w_determinant G 5) (hr.mono (by omega)) rfl G.g_determinant G.F_determinant.kp (bd_determinant G) tk (dv_cons (oe_de (oe_lc (own := [("row", 2)]) rfl S.nd (di_seq (de_var (vc (i := 1) rfl))) (blkOk_by rfl) (fun _ _ _ _ _ => (dg_name (i := 2) S.nd rfl (.inr rfl) (by decide))) (fun _ _ _ _ _ => pts_yes) (fun _ _ _ _ _ => (oe_de (oe_lc (own := [("column", 3)]) rfl S.nd (di_seq (de_var (vc (i := 1) rfl))) (blkOk_by rfl) (fun _ _ _ _ _ => (dg_name (i := 3) S.nd rfl (.inl rfl) (by decide))) (fun _ _ _ _ _ => pts_yes) (fun _ _ _ _ _ => (de_ix (de_ixV (vc (i := 0) rfl) (de_var (vc (i := 2) rfl))) (de_var (vl (i := 3) rfl))))))))) dv_nil))))
theorem sc_is_single_value : FnScope ["table", "lot"] ["table"] (defScope st_is_single_value) := ⟨rfl, rfl, rfl, by decide +kernel, rfl, by decide +kernel, by decide +kernel⟩
theorem w_is_single_value (G : Fx K mg) : FnD P w K mg base T 8 (He.fAd K ("is_single_value", none)) G.fd_is_single_value ["table"] f_is_single_value :=
  fnD_D G.F_is_single_value sc_is_single_value fun cdv A outer s H E hr tk => by
    have hu := hr.units
    have S := sc_is_single_value
    exact (dss_one (ds_ret (de_oe (de_all rfl G.b_all (da_cons (oe_de (oe_lc (own := [("lot", 1)]) rfl S.nd (di_seq (oe_de (oe_call (w_lots_of G) (hr.mono (by omega)) rfl G.g_lots_of G.F_lots_of.kp (bd_lots_of G) tk (dv_cons (de_lenV G.b_len (vc (i := 0) rfl)) dv_nil)))) (blkOk_by rfl) (fun _ _ _ _ _ => (dg_name (i := 1) S.nd rfl (.inl rfl) (by decide))) (fun _ _ _ _ _ => pts_yes) (fun _ _ _ _ _ => (de_gt (oe_de (oe_call (w_minor_of G) (hr.mono (by omega)) rfl G.g_minor_of G.F_minor_of.kp (bd_minor_of G) takesF (dv_cons (de_var (vc (i := 0) rfl)) (dv_cons (de_var (vl (i := 1) rfl)) dv_nil)))) de_int)))) da_nil)))))
theorem sc_is_single : FnScope ["table"] ["table"] (defScope st_is_single) := ⟨rfl, rfl, rfl, by decide +kernel, rfl, by decide +kernel, by decide +kernel⟩
theorem w_is_single (G : Fx K mg) : FnD P w K mg base T 9 (He.fAd K ("is_single", none)) G.fd_is_single ["table"] f_is_single :=
  fnD_D G.F_is_single sc_is_single fun cdv A outer s H E hr tk => by
    have hu := hr.units
    have S := sc_is_single
    exact (dss_cons (ds_expr (oe_call (w_need_table G) (hr.mono (by omega)) rfl G.g_need_table G.F_need_table.kp (bd_need_table G) tk (dv_cons (de_var (vl (i := 0) rfl)) dv_nil))) (dss_one (ds_ret (oe_call (w_is_single_value G) (hr.mono (by omega)) rfl G.g_is_single_value G.F_is_single_value.kp (bd_is_single_value G) tk (dv_cons (de_var (vl (i := 0) rfl)) dv_nil)))))
theorem sc_need_bounds : FnScope ["low", "high", "row", "other", "one", "more"] ["low", "high"] (defScope st_need_bounds) := ⟨rfl, rfl, rfl, by decide +kernel, rfl, by decide +kernel, by decide +kernel⟩
theorem w_need_bounds (G : Fx K mg) : FnD P w K mg base T 6 (He.fAd K ("need_bounds", none)) G.fd_need_bounds ["low", "high"] f_need_bounds :=
  fnD_D G.F_need_bounds sc_need_bounds fun cdv A outer s H E hr tk => by
    have hu := hr.units
    have S := sc_need_bounds
    exact (dss_cons (ds_expr (oe_call (w_need_table G) (hr.mono (by omega)) rfl G.g_need_table G.F_need_table.kp (bd_need_table G) tk (dv_cons (de_var (vl (i := 0) rfl)) dv_nil))) (dss_cons (ds_expr (oe_call (w_need_table G) (hr.mono (by omega)) rfl G.g_need_table G.F_need_table.kp (bd_need_table G) tk (dv_cons (de_var (vl (i := 1) rfl)) dv_nil))) (dss_cons (ds_if (dt_ne hu (de_lenV G.b_len (vl (i := 0) rfl)) (de_lenV G.b_len (vl (i := 1) rfl))) (dss_one (ds_raise rfl tk G.g_InvalidTable G.x_InvalidTable.1 G.x_InvalidTable.2.1 G.x_InvalidTable.2.2.1 G.x_InvalidTable.2.2.2)) dss_nil) (dss_one (ds_for (own := [2, 3]) (passes_of rfl) rfl (di_zip G.b_zip (da_cons (de_var (vl (i := 0) rfl)) (da_cons (de_var (vl (i := 1) rfl)) da_nil))) (dg_tup rfl (dgs_cons (dg_name (i := 2) S.nd rfl (.inl rfl) (by decide)) (dgs_cons (dg_name (i := 3) S.nd rfl (.inl rfl) (by decide)) dgs_nil))) (dss_one (ds_if (dt_val (de_any rfl G.b_any (da_cons (oe_de (oe_lc (own := [("one", 4), ("more", 5)]) rfl S.nd (di_zip G.b_zip (da_cons (de_var (vl (i := 2) rfl)) (da_cons (de_var (vl (i := 3) rfl)) da_nil))) (blkOk_by rfl) (fun _ _ _ _ _ => (dg_tup rfl (dgs_cons (dg_name (i := 4) S.nd rfl (.inl rfl) (by decide)) (dgs_cons (dg_name (i := 5) S.nd rfl (.inl rfl) (by decide)) dgs_nil)))) (fun _ _ _ _ _ => pts_yes) (fun _ _ _ _ _ => (de_gt (de_var (vl (i := 4) rfl)) (de_var (vl (i := 5) rfl)))))) da_nil))) (dss_one (ds_raise rfl tk G.g_InvalidTable G.x_InvalidTable.1 G.x_InvalidTable.2.1 G.x_InvalidTable.2.2.1 G.x_InvalidTable.2.2.2)) dss_nil)))))))
theorem sc_rows_within : FnScope ["low", "high", "found", "one", "other", "longer", "row", "entry"] ["low", "high"] (defScope st_rows_within) := ⟨rfl, rfl, rfl, by decide +kernel, rfl, by decide +kernel, by decide +kernel⟩
theorem w_rows_within (G : Fx K mg) : FnD P w K mg base T 2 (He.fAd K ("rows_within", none)) G.fd_rows_within ["low", "high"] f_rows_within :=
  fnD_D G.F_rows_within sc_rows_within fun cdv A outer s H E hr tk => by
    have hu := hr.units
    have S := sc_rows_within
    exact (dss_cons (ds_set (i := 2) S.nd rfl (.inl rfl) (oe_lst (da_cons (de_tup da_nil) da_nil))) (dss_cons (ds_for (own := [3, 4]) (passes_of rfl) rfl (di_zip G.b_zip (da_cons (de_var (vl (i := 0) rfl)) (da_cons (de_var (vl (i := 1) rfl)) da_nil))) (dg_tup rfl (dgs_cons (dg_name (i := 3) S.nd rfl (.inl rfl) (by decide)) (dgs_cons (dg_name (i := 4) S.nd rfl (.inl rfl) (by decide)) dgs_nil))) (dss_cons (ds_set (i := 5) S.nd rfl (.inl rfl) (oe_lst da_nil)) (dss_cons (ds_for (own := [6]) (passes_of rfl) rfl (di_seq (de_var (vl (i := 2) rfl))) (dg_name (i := 6) S.nd rfl (.inr rfl) (by decide)) (dss_one (ds_set (i := 5) S.nd rfl (.inl rfl) (oe_add (de_var (vl (i := 5) rfl)) (oe_de (oe_lc (own := [("entry", 7)]) rfl S.nd (di_seq (oe_de (oe_sortedSet rfl G.b_sorted G.b_set (oe_de (oe_lst (da_cons (de_var (vl (i := 3) rfl)) (da_cons (de_var (vl (i := 4) rfl)) da_nil))))))) (blkOk_by rfl) (fun _ _ _ _ _ => (dg_name (i := 7) S.nd rfl (.inl rfl) (by decide))) (fun _ _ _ _ _ => pts_yes) (fun _ _ _ _ _ => (oe_de (oe_add (de_var (vc (i := 6) rfl)) (de_tup (da_cons (de_var (vl (i := 7) rfl)) da_nil))))))))))) (dss_one (ds_set (i := 2) S.nd rfl (.inl rfl) (de_oe (de_var (vl (i := 5) rfl)))))))) (dss_one (ds_ret (oe_take (vl (i := 2) rfl))))))
theorem sc_bad_table : FnScope ["low", "high", "tables", "row", "other", "longer", "table", "more"] ["low", "high"] (defScope st_bad_table) := ⟨rfl, rfl, rfl, by decide +kernel, rfl, by decide +kernel, by decide +kernel⟩
theorem w_bad_table (G : Fx K mg) : FnD P w K mg base T 9 (He.fAd K ("bad_table", none)) G.fd_bad_table ["low", "high"] f_bad_table :=
  fnD_D G.F_bad_table sc_bad_table fun cdv A outer s H E hr tk => by
    have hu := hr.units
    have S := sc_bad_table
    exact (dss_cons (ds_set (i := 2) S.nd rfl (.inl rfl) (oe_lst (da_cons (de_tup da_nil) da_nil))) (dss_cons (ds_for (own := [3, 4]) (passes_of rfl) rfl (di_zip G.b_zip (da_cons (de_var (vl (i := 0) rfl)) (da_cons (de_var (vl (i := 1) rfl)) da_nil))) (dg_tup rfl (dgs_cons (dg_name (i := 3) S.nd rfl (.inl rfl) (by decide)) (dgs_cons (dg_name (i := 4) S.nd rfl (.inl rfl) (by decide)) dgs_nil))) (dss_cons (ds_set (i := 5) S.nd rfl (.inl rfl) (oe_lst da_nil)) (dss_cons (ds_for (own := [6]) (passes_of rfl) rfl (di_seq (de_var (vl (i := 2) rfl))) (dg_name (i := 6) S.nd rfl (.inr rfl) (by decide)) (dss_one (ds_set (i := 5) S.nd rfl (.inl rfl) (oe_add (de_var (vl (i := 5) rfl)) (oe_de (oe_lc (own := [("more", 7)]) rfl S.nd (di_seq (oe_de (oe_call (w_rows_within G) (hr.mono (by omega)) rfl G.g_rows_within G.F_rows_within.kp (bd_rows_within G) tk (dv_cons (de_var (vl (i := 3) rfl)) (dv_cons (de_var (vl (i := 4) rfl)) dv_nil))))) (blkOk_by rfl) (fun _ _ _ _ _ => (dg_name (i := 7) S.nd rfl (.inl rfl) (by decide))) (fun _ _ _ _ _ => pts_yes) (fun _ _ _ _ _ => (oe_de (oe_add (de_var (vc (i := 6) rfl)) (de_tup (da_cons (de_var (vl (i := 7) rfl)) da_nil))))))))))) (dss_one (ds_set (i := 2) S.nd rfl (.inl rfl) (de_oe (de_var (vl (i := 5) rfl)))))))) (dss_cons (ds_for (own := [6]) (passes_of rfl) rfl (di_seq (de_var (vl (i := 2) rfl))) (dg_name (i := 6) S.nd rfl (.inr rfl) (by decide)) (dss_one (ds_if (dt_not (dt_val (oe_de (oe_call (w_is_single_value G) (hr.mono (by omega)) rfl G.g_is_single_value G.F_is_single_value.kp (bd_is_single_value G) tk (dv_cons (de_var (vc (i := 6) rfl)) dv_nil))))) (dss_one (ds_ret (oe_take (vc (i := 6) rfl)))) dss_nil))) (dss_one (ds_ret (de_oe de_non))))))
theorem sc_all_single : FnScope ["low", "high"] ["low", "high"] (defScope st_all_single) := ⟨rfl, rfl, rfl, by decide +kernel, rfl, by decide +kernel, by decide +kernel⟩
theorem w_all_single (G : Fx K mg) : FnD P w K mg base T 10 (He.fAd K ("all_single", none)) G.fd_all_single ["low", "high"] f_all_single :=
  fnD_D G.F_all_single sc_all_single fun cdv A outer s H E hr tk => by
    have hu := hr.units
    have S := sc_all_single
    exact (dss_cons (ds_expr (oe_call (w_need_bounds G) (hr.mono (by omega)) rfl G.g_need_bounds G.F_need_bounds.kp (bd_need_bounds G) tk (dv_cons (de_var (vl (i := 0) rfl)) (dv_cons (de_var (vl (i := 1) rfl)) dv_nil)))) (dss_one (ds_ret (de_oe (de_is (oe_de (oe_call (w_bad_table G) (hr.mono (by omega)) rfl G.g_bad_table G.F_bad_table.kp (bd_bad_table G) tk (dv_cons (de_var (vl (i := 0) rfl)) (dv_cons (de_var (vl (i := 1) rfl)) dv_nil)))) de_non)))))
theorem sc_first_bad : FnScope ["low", "high"] ["low", "high"] (defScope st_first_bad) := ⟨rfl, rfl, rfl, by decide +kernel, rfl, by decide +kernel, by decide +kernel⟩
theorem w_first_bad (G : Fx K mg) : FnD P w K mg base T 10 (He.fAd K ("first_bad", none)) G.fd_first_bad ["low", "high"] f_first_bad :=
  fnD_D G.F_first_bad sc_first_bad fun cdv A outer s H E hr tk => by
    have hu := hr.units
    have S := sc_first_bad
    exact (dss_cons (ds_expr (oe_call (w_need_bounds G) (hr.mono (by omega)) rfl G.g_need_bounds G.F_need_bounds.kp (bd_need_bounds G) tk (dv_cons (de_var (vl (i := 0) rfl)) (dv_cons (de_var (vl (i := 1) rfl)) dv_nil)))) (dss_one (ds_ret (oe_call (w_bad_table G) (hr.mono (by omega)) rfl G.g_bad_table G.F_bad_table.kp (bd_bad_table G) tk (dv_cons (de_var (vl (i := 0) rfl)) (dv_cons (de_var (vl (i := 1) rfl)) dv_nil))))))
theorem sc__law_deck : FnScope ["cell", "turn"] ["cell", "turn"] (defScope st__law_deck) := ⟨rfl, rfl, rfl, by decide +kernel, rfl, by decide +kernel, by decide +kernel⟩
theorem w__law_deck (G : Fx K mg) : FnD P w K mg base T 2 (He.fAd K ("_law_deck", none)) G.fd__law_deck ["cell", "turn"] f__law_deck :=
  fnD_D G.F__law_deck sc__law_deck fun cdv A outer s H E hr tk => by
    have hu := hr.units
    have S := sc__law_deck
    exact (dss_cons (ds_if (dt_ge (de_var (vl (i := 0) rfl)) (de_pow de_int de_int)) (dss_one (ds_ret (oe_lst (da_cons (de_sub (de_var (vl (i := 0) rfl)) (de_pow de_int de_int)) (da_cons (de_mod (de_var (vl (i := 0) rfl)) de_int) (da_cons (de_var (vl (i := 1) rfl)) da_nil)))))) dss_nil) (dss_one (ds_ret (oe_lst (da_cons de_int (da_cons (de_mod (de_var (vl (i := 0) rfl)) de_int) (da_cons (de_var (vl (i := 1) rfl)) da_nil)))))))
theorem sc__law_pick : FnScope ["deck", "size", "found", "number"] ["deck", "size"] (defScope st__law_pick) := ⟨rfl, rfl, rfl, by decide +kernel, rfl, by decide +kernel, by decide +kernel⟩
theorem w__law_pick (G : Fx K mg) : FnD P w K mg base T 2 (He.fAd K ("_law_pick", none)) G.fd__law_pick ["deck", "size"] f__law_pick :=
  fnD_D G.F__law_pick sc__law_pick fun cdv A outer s H E hr tk => by
    have hu := hr.units
    have S := sc__law_pick
    exact (dss_cons (ds_if (dt_gt (de_ixV (vl (i := 0) rfl) de_int) de_int) (dss_cons (ds_set (i := 2) S.nd rfl (.inl rfl) (de_oe (de_mod (de_intC G.b_int (da_cons (de_ixV (vl (i := 0) rfl) de_int) da_nil)) (de_var (vl (i := 1) rfl))))) (dss_cons (ds_put (vl (i := 0) rfl) de_int (de_fdiv (de_ixV (vl (i := 0) rfl) de_int) (de_var (vl (i := 1) rfl)))) (dss_one (ds_ret (oe_take (vl (i := 2) rfl)))))) dss_nil) (dss_cons (ds_put (vl (i := 0) rfl) de_int (oe_de (oe_add (de_ixV (vl (i := 0) rfl) de_int) de_int))) (dss_cons (ds_set (i := 3) S.nd rfl (.inl rfl) (de_oe (de_mod (de_pow (oe_de (oe_add (de_ixV (vl (i := 0) rfl) de_int) (de_mul de_int (de_ixV (vl (i := 0) rfl) de_int)))) de_int) de_int))) (dss_cons (ds_set (i := 2) S.nd rfl (.inl rfl) (de_oe (de_fdiv (de_mod (de_pow (oe_de (oe_add (de_var (vl (i := 3) rfl)) (de_mul de_int (de_ixV (vl (i := 0) rfl) de_int)))) de_int) de_int) de_int))) (dss_one (ds_ret (de_oe (de_mod (de_intC G.b_int (da_cons (de_var (vl (i := 2) rfl)) da_nil)) (de_var (vl (i := 1) rfl))))))))))
theorem sc__law_one : FnScope ["deck", "some"] ["deck", "some"] (defScope st__law_one) := ⟨rfl, rfl, rfl, by decide +kernel, rfl, by decide +kernel, by decide +kernel⟩
theorem w__law_one (G : Fx K mg) : FnD P w K mg base T 3 (He.fAd K ("_law_one", none)) G.fd__law_one ["deck", "some"] f__law_one :=
  fnD_D G.F__law_one sc__law_one fun cdv A outer s H E hr tk => by
    have hu := hr.units
    have S := sc__law_one
    exact (dss_one (ds_ret (de_oe (de_ixV (vl (i := 1) rfl) (oe_de (oe_call (w__law_pick G) (hr.mono (by omega)) rfl G.g__law_pick G.F__law_pick.kp (bd__law_pick G) tk (dv_lend (vl (i := 0) rfl) (dv_cons (de_lenV G.b_len (vl (i := 1) rfl)) dv_nil))))))))
theorem sc__law_sort : FnScope ["thing"] ["thing"] (defScope st__law_sort) := ⟨rfl, rfl, rfl, by decide +kernel, rfl, by decide +kernel, by decide +kernel⟩
theorem w__law_sort (G : Fx K mg) : FnD P w K mg base T 2 (He.fAd K ("_law_sort", none)) G.fd__law_sort ["thing"] f__law_sort :=
  fnD_D G.F__law_sort sc__law_sort fun cdv A outer s H E hr tk => by
    have hu := hr.units
    have S := sc__law_sort
    exact (dss_cons (ds_if (dt_val (de_isi .bl G.b_isinstance (de_var (vl (i := 0) rfl)) (pe_tn .bl G.b_bool G.boot_bool))) (dss_one (ds_ret (de_oe de_int))) dss_nil) (dss_cons (ds_if (dt_val (de_isi .int G.b_isinstance (de_var (vl (i := 0) rfl)) (pe_tn .int G.b_int G.boot_int))) (dss_one (ds_ret (de_oe de_int))) dss_nil) (dss_cons (ds_if (dt_val (de_isi .str G.b_isinstance (de_var (vl (i := 0) rfl)) (pe_tn .str G.b_str G.boot_str))) (dss_one (ds_ret (de_oe de_int))) dss_nil) (dss_cons (ds_if (dt_val (de_isi .lst G.b_isinstance (de_var (vl (i := 0) rfl)) (pe_tn .lst G.b_list G.boot_list))) (dss_one (ds_ret (de_oe de_int))) dss_nil) (dss_one (ds_ret (oe_if (dt_val (de_isi .tup G.b_isinstance (de_var (vl (i := 0) rfl)) (pe_tn .tup G.b_tuple G.boot_tuple))) (de_oe de_int) (de_oe de_int))))))))
theorem sc__law_same : FnScope ["told", "due", "k", "part"] ["told", "due"] (defScope st__law_same) := ⟨rfl, rfl, rfl, by decide +kernel, rfl, by decide +kernel, by decide +kernel⟩
theorem w__law_same (G : Fx K mg) : ∀ n : Nat, FnD P w K mg base T (n + 2) (He.fAd K ("_law_same", none)) G.fd__law_same ["told", "due"] (f__law_same n)
  | 0 => FnD.never
  | n + 1 => fnD_D (k := n + 2) G.F__law_same sc__law_same fun cdv A outer s H E hr tk => by
    have hu := hr.units
    have S := sc__law_same
    have ih := w__law_same G n
    exact (dss_cons (ds_if (dt_ne hu (oe_de (oe_call (w__law_sort G) (hr.mono (by omega)) rfl G.g__law_sort G.F__law_sort.kp (bd__law_sort G) tk (dv_cons (de_var (vl (i := 0) rfl)) dv_nil))) (oe_de (oe_call (w__law_sort G) (hr.mono (by omega)) rfl G.g__law_sort G.F__law_sort.kp (bd__law_sort G) tk (dv_cons (de_var (vc (i := 1) rfl)) dv_nil)))) (dss_one (ds_ret (de_oe de_bl))) dss_nil) (dss_cons (ds_if (dt_w (dw_and (dt_gt (oe_de (oe_call (w__law_sort G) (hr.mono (by omega)) rfl G.g__law_sort G.F__law_sort.kp (bd__law_sort G) tk (dv_cons (de_var (vl (i := 0) rfl)) dv_nil))) de_int) (dw_and1 (dt_lt (oe_de (oe_call (w__law_sort G) (hr.mono (by omega)) rfl G.g__law_sort G.F__law_sort.kp (bd__law_sort G) tk (dv_cons (de_var (vl (i := 0) rfl)) dv_nil))) de_int)))) (dss_cons (ds_if (dt_ne hu (de_lenV G.b_len (vl (i := 0) rfl)) (de_lenV G.b_len (vc (i := 1) rfl))) (dss_one (ds_ret (de_oe de_bl))) dss_nil) (dss_one (ds_ret (de_oe (de_eq hu (oe_de (oe_lc (own := [("k", 2), ("part", 3)]) rfl S.nd (di_enum G.b_enumerate (da_cons (de_var (vl (i := 0) rfl)) da_nil)) (blkOk_by rfl) (fun _ _ _ _ _ => (dg_tup rfl (dgs_cons (dg_name (i := 2) S.nd rfl (.inl rfl) (by decide)) (dgs_cons (dg_name (i := 3) S.nd rfl (.inl rfl) (by decide)) dgs_nil)))) (fun _ _ _ _ _ => (pts_if (dt_not (dt_val (oe_de (oe_call ih (hr.mono (by omega)) rfl G.g__law_same G.F__law_same.kp (bd__law_same G) takesF (dv_cons (de_var (vl (i := 3) rfl)) (dv_cons (de_ixV (vc (i := 1) rfl) (de_var (vl (i := 2) rfl))) dv_nil)))))))) (fun _ _ _ _ _ => (de_var (vl (i := 2) rfl))))) (oe_de (oe_lst da_nil))))))) dss_nil) (dss_one (ds_ret (de_oe (de_eq hu (de_var (vl (i := 0) rfl)) (de_var (vc (i := 1) rfl))))))))
theorem sc__law_kin : FnScope ["e", "sorts", "labels", "label", "good"] ["e"] (defScope st__law_kin) := ⟨rfl, rfl, rfl, by decide +kernel, rfl, by decide +kernel, by decide +kernel⟩
theorem w__law_kin (G : Fx K mg) (x txt : Str) (R : KinRow K x) (hm : ∀ a0, runDef 5 (m__law_kin a0 (x == ("InvalidTable" : Str)) (x == ("InvalidLoad" : Str)) (x == ("InvalidPushes" : Str)) (x == ("InvalidLot" : Str)) (x == ("InvalidBody" : Str)) (x == ("InvalidNumber" : Str)) (x == ("InvalidFacts" : Str)) (x == ("InvalidText" : Str)) (x == ("NotSingle" : Str)) (x == ("Unlike" : Str)) (x == ("NothingToUndo" : Str)) (x == ("TooMany" : Str)) true) [.d (.obj a0)] = ⟨.ok (.d (.str txt)), [], true⟩) : KinOk P w K mg base T 1 (He.fAd K ("_law_kin", none)) G.fd__law_kin ["e"] (He.ga K x) txt :=
  kin_D (m := fun a0 => m__law_kin a0 (x == ("InvalidTable" : Str)) (x == ("InvalidLoad" : Str)) (x == ("InvalidPushes" : Str)) (x == ("InvalidLot" : Str)) (x == ("InvalidBody" : Str)) (x == ("InvalidNumber" : Str)) (x == ("InvalidFacts" : Str)) (x == ("InvalidText" : Str)) (x == ("NotSingle" : Str)) (x == ("Unlike" : Str)) (x == ("NothingToUndo" : Str)) (x == ("TooMany" : Str)) true) G.F__law_kin sc__law_kin hm fun cdv A outer s H E q hot hz => by
    have S := sc__law_kin
    have hx := (List.mem_cons_self : q ∈ [q])
    have hh := hot.1
    have ho := hot.2
    have hf : ∃ vs : Array Value, q.2.data = .fields vs := ho.imp fun _ h => h.1
    obtain ⟨C, k0, k1, k2, k3, k4, k5, k6, k7, k8, k9, k10, k11, k12, _, _⟩ := R
    exact (dss_cons (ds_set (i := 1) S.nd rfl (.inl rfl) (oe_lst (da_cons (de_isX (cv := .ref (He.ga K "InvalidTable")) (cu := .ref (He.ga K "InvalidTable")) C hx hz hf G.b_isinstance (de_var (vl (i := 0) rfl)) (pe_glob (v := .ref (He.ga K "InvalidTable")) rfl G.g_InvalidTable rfl) (fun u r => r) k0) (da_cons (de_isX (cv := .ref (He.ga K "InvalidLoad")) (cu := .ref (He.ga K "InvalidLoad")) C hx hz hf G.b_isinstance (de_var (vl (i := 0) rfl)) (pe_glob (v := .ref (He.ga K "InvalidLoad")) rfl G.g_InvalidLoad rfl) (fun u r => r) k1) (da_cons (de_isX (cv := .ref (He.ga K "InvalidPushes")) (cu := .ref (He.ga K "InvalidPushes")) C hx hz hf G.b_isinstance (de_var (vl (i := 0) rfl)) (pe_glob (v := .ref (He.ga K "InvalidPushes")) rfl G.g_InvalidPushes rfl) (fun u r => r) k2) da_nil))))) (dss_cons (ds_set (i := 1) S.nd rfl (.inl rfl) (oe_add (de_var (vl (i := 1) rfl)) (oe_de (oe_lst (da_cons (de_isX (cv := .ref (He.ga K "InvalidLot")) (cu := .ref (He.ga K "InvalidLot")) C hx hz hf G.b_isinstance (de_var (vl (i := 0) rfl)) (pe_glob (v := .ref (He.ga K "InvalidLot")) rfl G.g_InvalidLot rfl) (fun u r => r) k3) (da_cons (de_isX (cv := .ref (He.ga K "InvalidBody")) (cu := .ref (He.ga K "InvalidBody")) C hx hz hf G.b_isinstance (de_var (vl (i := 0) rfl)) (pe_glob (v := .ref (He.ga K "InvalidBody")) rfl G.g_InvalidBody rfl) (fun u r => r) k4) (da_cons (de_isX (cv := .ref (He.ga K "InvalidNumber")) (cu := .ref (He.ga K "InvalidNumber")) C hx hz hf G.b_isinstance (de_var (vl (i := 0) rfl)) (pe_glob (v := .ref (He.ga K "InvalidNumber")) rfl G.g_InvalidNumber rfl) (fun u r => r) k5) da_nil))))))) (dss_cons (ds_set (i := 1) S.nd rfl (.inl rfl) (oe_add (de_var (vl (i := 1) rfl)) (oe_de (oe_lst (da_cons (de_isX (cv := .ref (He.ga K "InvalidFacts")) (cu := .ref (He.ga K "InvalidFacts")) C hx hz hf G.b_isinstance (de_var (vl (i := 0) rfl)) (pe_glob (v := .ref (He.ga K "InvalidFacts")) rfl G.g_InvalidFacts rfl) (fun u r => r) k6) (da_cons (de_isX (cv := .ref (He.ga K "InvalidText")) (cu := .ref (He.ga K "InvalidText")) C hx hz hf G.b_isinstance (de_var (vl (i := 0) rfl)) (pe_glob (v := .ref (He.ga K "InvalidText")) rfl G.g_InvalidText rfl) (fun u r => r) k7) (da_cons (de_isX (cv := .ref (He.ga K "NotSingle")) (cu := .ref (He.ga K "NotSingle")) C hx hz hf G.b_isinstance (de_var (vl (i := 0) rfl)) (pe_glob (v := .ref (He.ga K "NotSingle")) rfl G.g_NotSingle rfl) (fun u r => r) k8) da_nil))))))) (dss_cons (ds_set (i := 1) S.nd rfl (.inl rfl) (oe_add (de_var (vl (i := 1) rfl)) (oe_de (oe_lst (da_cons (de_isX (cv := .ref (He.ga K "Unlike")) (cu := .ref (He.ga K "Unlike")) C hx hz hf G.b_isinstance (de_var (vl (i := 0) rfl)) (pe_glob (v := .ref (He.ga K "Unlike")) rfl G.g_Unlike rfl) (fun u r => r) k9) (da_cons (de_isX (cv := .ref (He.ga K "NothingToUndo")) (cu := .ref (He.ga K "NothingToUndo")) C hx hz hf G.b_isinstance (de_var (vl (i := 0) rfl)) (pe_glob (v := .ref (He.ga K "NothingToUndo")) rfl G.g_NothingToUndo rfl) (fun u r => r) k10) (da_cons (de_isX (cv := .ref (He.ga K "TooMany")) (cu := .ref (He.ga K "TooMany")) C hx hz hf G.b_isinstance (de_var (vl (i := 0) rfl)) (pe_glob (v := .ref (He.ga K "TooMany")) rfl G.g_TooMany rfl) (fun u r => r) k11) da_nil))))))) (dss_cons (ds_app (vl (i := 1) rfl) (de_isX (cv := .ty "ValueError") (cu := .type "ValueError") C hx hz hf G.b_isinstance (de_var (vl (i := 0) rfl)) (pe_bltn (v := .ty "ValueError") rfl G.b_ValueError (by decide +kernel) rfl) (fun u r => r) k12)) (dss_cons (ds_set (i := 2) S.nd rfl (.inl rfl) (de_oe de_str)) (dss_one (ds_ret (de_oe (de_join de_str (oe_de (oe_lcX (own := [("label", 3), ("good", 4)]) hx hh ho S.nd G.b_zip (da_cons (oe_de (oe_split (de_var (vl (i := 2) rfl)) de_str)) (da_cons (de_var (vl (i := 1) rfl)) da_nil)) (blkOk_by rfl) (fun _ _ _ _ _ => (dgs_cons (dg_name (i := 3) S.nd rfl (.inl rfl) (by decide)) (dgs_cons (dg_name (i := 4) S.nd rfl (.inl rfl) (by decide)) dgs_nil))) (fun _ _ _ _ _ => (pts_if (dt_val (de_var (vl (i := 4) rfl))))) (fun _ _ _ _ _ => (de_var (vl (i := 3) rfl)))))))))))))))
theorem sc__law_try : FnScope ["call_so", "found", "e"] ["call_so"] (defScope st__law_try) := ⟨rfl, rfl, rfl, by decide +kernel, rfl, by decide +kernel, by decide +kernel⟩
theorem sc__law_known : FnScope ["p", "r", "e"] [] (defScope st__law_known) := ⟨rfl, rfl, rfl, by decide +kernel, rfl, by decide +kernel, by decide +kernel⟩
theorem w__law_known (G : Fx K mg) : FnD P w K mg base T 2 (He.fAd K ("_law_known", none)) G.fd__law_known [] f__law_known :=
  fnD_D G.F__law_known sc__law_known fun cdv A outer s H E hr tk => by
    have hu := hr.units
    have S := sc__law_known
    exact (dss_cons (ds_asg (own := [0, 1, 2]) (de_tup (da_cons (de_tup (da_cons (de_tup (da_cons de_int (da_cons de_int da_nil))) (da_cons (de_tup (da_cons de_int (da_cons de_int da_nil))) da_nil))) (da_cons (de_tup (da_cons (de_tup (da_cons de_int (da_cons de_int da_nil))) (da_cons (de_tup (da_cons de_int (da_cons de_int da_nil))) da_nil))) (da_cons (de_tup (da_cons (de_tup (da_cons de_int (da_cons de_int da_nil))) (da_cons (de_tup (da_cons de_int (da_cons de_int da_nil))) da_nil))) da_nil)))) (dg_tup rfl (dgs_cons (dg_name (i := 0) S.nd rfl (.inl rfl) (by decide)) (dgs_cons (dg_name (i := 1) S.nd rfl (.inl rfl) (by decide)) (dgs_cons (dg_name (i := 2) S.nd rfl (.inl rfl) (by decide)) dgs_nil))))) (dss_one (ds_ret (de_oe (de_tup (da_cons (de_var (vl (i := 0) rfl)) (da_cons (de_var (vl (i := 1) rfl)) (da_cons (de_var (vl (i := 2) rfl)) (da_cons (de_tup (da_cons (de_tup (da_cons (de_neg de_int) da_nil)) da_nil)) (da_cons (de_tup (da_cons (de_tup (da_cons de_int da_nil)) da_nil)) (da_cons (de_tup (da_cons (de_tup (da_cons de_int (da_cons de_int da_nil))) (da_cons (de_tup (da_cons de_int (da_cons de_int da_nil))) da_nil))) da_nil)))))))))))
theorem sc__law_bodies : FnScope ["many", "found", "body_so", "row"] ["many"] (defScope st__law_bodies) := ⟨rfl, rfl, rfl, by decide +kernel, rfl, by decide +kernel, by decide +kernel⟩
theorem w__law_bodies (G : Fx K mg) : FnD P w K mg base T 2 (He.fAd K ("_law_bodies", none)) G.fd__law_bodies ["many"] f__law_bodies :=
  fnD_D G.F__law_bodies sc__law_bodies fun cdv A outer s H E hr tk => by
    have hu := hr.units
    have S := sc__law_bodies
    exact (dss_cons (ds_set (i := 1) S.nd rfl (.inl rfl) (oe_lst (da_cons (de_tup da_nil) da_nil))) (dss_cons (ds_for (own := [2]) (passes_of rfl) rfl (di_range1 G.b_range (da_cons (de_var (vl (i := 0) rfl)) da_nil)) (dg_name (i := 2) S.nd rfl (.inr rfl) (by decide)) (dss_one (ds_set (i := 1) S.nd rfl (.inl rfl) (oe_add (de_var (vl (i := 1) rfl)) (oe_de (oe_lc (own := [("row", 3)]) rfl S.nd (di_seq (de_var (vl (i := 1) rfl))) (blkOk_by rfl) (fun _ _ _ _ _ => (dg_name (i := 3) S.nd rfl (.inl rfl) (by decide))) (fun _ _ _ _ _ => pts_yes) (fun _ _ _ _ _ => (oe_de (oe_add (de_var (vl (i := 3) rfl)) (de_tup (da_cons (de_var (vc (i := 2) rfl)) da_nil))))))))))) (dss_one (ds_ret (oe_sorted hu G.b_sorted (da_cons (de_var (vl (i := 1) rfl)) da_nil))))))
theorem sc__law_det : FnScope ["rows", "found", "shift", "one", "two", "three"] ["rows"] (defScope st__law_det) := ⟨rfl, rfl, rfl, by decide +kernel, rfl, by decide +kernel, by decide +kernel⟩
theorem w__law_det (G : Fx K mg) : FnD P w K mg base T 2 (He.fAd K ("_law_det", none)) G.fd__law_det ["rows"] f__law_det :=
  fnD_D G.F__law_det sc__law_det fun cdv A outer s H E hr tk => by
    have hu := hr.units
    have S := sc__law_det
    exact (dss_cons (ds_if (dt_eq hu (de_lenV G.b_len (vl (i := 0) rfl)) de_int) (dss_one (ds_ret (de_oe de_int))) dss_nil) (dss_cons (ds_if (dt_eq hu (de_lenV G.b_len (vl (i := 0) rfl)) de_int) (dss_one (ds_ret (de_oe (de_ix (de_ixV (vl (i := 0) rfl) de_int) de_int)))) dss_nil) (dss_cons (ds_if (dt_eq hu (de_lenV G.b_len (vl (i := 0) rfl)) de_int) (dss_one (ds_ret (de_oe (de_sub (de_mul (de_ix (de_ixV (vl (i := 0) rfl) de_int) de_int) (de_ix (de_ixV (vl (i := 0) rfl) de_int) de_int)) (de_mul (de_ix (de_ixV (vl (i := 0) rfl) de_int) de_int) (de_ix (de_ixV (vl (i := 0) rfl) de_int) de_int)))))) dss_nil) (dss_cons (ds_set (i := 1) S.nd rfl (.inl rfl) (de_oe de_int)) (dss_cons (ds_for (own := [2]) (passes_of rfl) rfl (di_range1 G.b_range (da_cons de_int da_nil)) (dg_name (i := 2) S.nd rfl (.inl rfl) (by decide)) (dss_cons (ds_par3 (i := 3) (j := 4) (l := 5) rfl S.nd rfl rfl rfl (by decide) (by decide) (by decide) rfl rfl rfl (da_cons (de_var (vl (i := 2) rfl)) (da_cons (de_mod (oe_de (oe_add (de_var (vl (i := 2) rfl)) de_int)) de_int) (da_cons (de_mod (oe_de (oe_add (de_var (vl (i := 2) rfl)) de_int)) de_int) da_nil))) rfl) (dss_cons (ds_set (i := 1) S.nd rfl (.inl rfl) (oe_add (de_var (vl (i := 1) rfl)) (de_mul (de_mul (de_ix (de_ixV (vl (i := 0) rfl) de_int) (de_var (vl (i := 3) rfl))) (de_ix (de_ixV (vl (i := 0) rfl) de_int) (de_var (vl (i := 4) rfl)))) (de_ix (de_ixV (vl (i := 0) rfl) de_int) (de_var (vl (i := 5) rfl)))))) (dss_one (ds_set (i := 1) S.nd rfl (.inl rfl) (de_oe (de_sub (de_var (vl (i := 1) rfl)) (de_mul (de_mul (de_ix (de_ixV (vl (i := 0) rfl) de_int) (de_var (vl (i := 3) rfl))) (de_ix (de_ixV (vl (i := 0) rfl) de_int) (de_var (vl (i := 5) rfl)))) (de_ix (de_ixV (vl (i := 0) rfl) de_int) (de_var (vl (i := 4) rfl))))))))))) (dss_one (ds_ret (oe_take (vl (i := 1) rfl)))))))))
theorem sc__law_part : FnScope ["table_so", "rows", "columns", "row", "column"] ["table_so", "rows", "columns"] (defScope st__law_part) := ⟨rfl, rfl, rfl, by decide +kernel, rfl, by decide +kernel, by decide +kernel⟩
theorem w__law_part (G : Fx K mg) : FnD P w K mg base T 2 (He.fAd K ("_law_part", none)) G.fd__law_part ["table_so", "rows", "columns"] f__law_part :=
  fnD_D G.F__law_part sc__law_part fun cdv A outer s H E hr tk => by
    have hu := hr.units
    have S := sc__law_part
    exact (dss_one (ds_ret (oe_lc (own := [("row", 3)]) rfl S.nd (di_seq (de_var (vl (i := 1) rfl))) (blkOk_by rfl) (fun _ _ _ _ _ => (dg_name (i := 3) S.nd rfl (.inr rfl) (by decide))) (fun _ _ _ _ _ => pts_yes) (fun _ _ _ _ _ => (oe_de (oe_lc (own := [("column", 4)]) rfl S.nd (di_seq (de_var (vc (i := 2) rfl))) (blkOk_by rfl) (fun _ _ _ _ _ => (dg_name (i := 4) S.nd rfl (.inl rfl) (by decide))) (fun _ _ _ _ _ => pts_yes) (fun _ _ _ _ _ => (de_ix (de_ixV (vc (i := 0) rfl) (de_var (vc (i := 3) rfl))) (de_var (vl (i := 4) rfl))))))))))
theorem sc__law_minor : FnScope ["table_so", "lot_so"] ["table_so", "lot_so"] (defScope st__law_minor) := ⟨rfl, rfl, rfl, by decide +kernel, rfl, by decide +kernel, by decide +kernel⟩
theorem w__law_minor (G : Fx K mg) : FnD P w K mg base T 3 (He.fAd K ("_law_minor", none)) G.fd__law_minor ["table_so", "lot_so"] f__law_minor :=
  fnD_D G.F__law_minor sc__law_minor fun cdv A outer s H E hr tk => by
    have hu := hr.units
    have S := sc__law_minor
    exact (dss_one (ds_ret (oe_call (w__law_det G) (hr.mono (by omega)) rfl G.g__law_det G.F__law_det.kp (bd__law_det G) tk (dv_cons (oe_de (oe_call (w__law_part G) (hr.mono (by omega)) rfl G.g__law_part G.F__law_part.kp (bd__law_part G) tk (dv_cons (de_var (vl (i := 0) rfl)) (dv_cons (de_var (vl (i := 1) rfl)) (dv_cons (de_var (vl (i := 1) rfl)) dv_nil))))) dv_nil))))
theorem sc__law_is_single : FnScope ["table_so", "lot_so"] ["table_so"] (defScope st__law_is_single) := ⟨rfl, rfl, rfl, by decide +kernel, rfl, by decide +kernel, by decide +kernel⟩
theorem w__law_is_single (G : Fx K mg) : FnD P w K mg base T 4 (He.fAd K ("_law_is_single", none)) G.fd__law_is_single ["table_so"] f__law_is_single :=
  fnD_D G.F__law_is_single sc__law_is_single fun cdv A outer s H E hr tk => by
    have hu := hr.units
    have S := sc__law_is_single
    exact (dss_one (ds_ret (de_oe (de_eq hu (oe_de (oe_lc (own := [("lot_so", 1)]) rfl S.nd (di_seq (oe_de (oe_call (w__law_bodies G) (hr.mono (by omega)) rfl G.g__law_bodies G.F__law_bodies.kp (bd__law_bodies G) tk (dv_cons (de_lenV G.b_len (vc (i := 0) rfl)) dv_nil)))) (blkOk_by rfl) (fun _ _ _ _ _ => (dg_name (i := 1) S.nd rfl (.inl rfl) (by decide))) (fun _ _ _ _ _ => (pts_if (dt_le (oe_de (oe_call (w__law_minor G) (hr.mono (by omega)) rfl G.g__law_minor G.F__law_minor.kp (bd__law_minor G) takesF (dv_cons (de_var (vc (i := 0) rfl)) (dv_cons (de_var (vl (i := 1) rfl)) dv_nil)))) de_int))) (fun _ _ _ _ _ => de_int))) (oe_de (oe_lst da_nil))))))
theorem sc__law_a_single : FnScope ["deck", "many", "rows", "at", "row", "turn", "number"] ["deck", "many"] (defScope st__law_a_single) := ⟨rfl, rfl, rfl, by decide +kernel, rfl, by decide +kernel, by decide +kernel⟩
theorem w__law_a_single (G : Fx K mg) : FnD P w K mg base T 3 (He.fAd K ("_law_a_single", none)) G.fd__law_a_single ["deck", "many"] f__law_a_single :=
  fnD_D G.F__law_a_single sc__law_a_single fun cdv A outer s H E hr tk => by
    have hu := hr.units
    have S := sc__law_a_single
    exact (dss_cons (ds_set (i := 2) S.nd rfl (.inl rfl) (oe_lst da_nil)) (dss_cons (ds_for (own := [3]) (passes_of rfl) rfl (di_range1 G.b_range (da_cons (de_var (vl (i := 1) rfl)) da_nil)) (dg_name (i := 3) S.nd rfl (.inl rfl) (by decide)) (dss_cons (ds_setLc (i := 4) (own := [("turn", 5)]) rfl S.nd rfl rfl (sw_true rfl rfl rfl rfl) (di_range1 G.b_range (da_cons (de_var (vl (i := 1) rfl)) da_nil)) (blkOk_by rfl) (fun _ _ _ _ _ => (dg_name (i := 5) S.nd rfl (.inl rfl) (by decide))) (fun _ _ _ _ _ => pts_yes) (fun _ _ _ _ _ => (de_sub (oe_de (oe_call (w__law_pick G) (hr.mono (by omega)) rfl G.g__law_pick G.F__law_pick.kp (bd__law_pick G) takesF (dv_lend (vc (i := 0) rfl) (dv_cons de_int dv_nil)))) de_int))) (dss_cons (ds_put (vl (i := 4) rfl) (de_var (vl (i := 3) rfl)) (de_min2 rfl G.b_min (da_cons de_int (da_cons (oe_de (oe_add (de_sub (oe_de (oe_add de_int (de_sum rfl G.b_sum (da_cons (oe_de (oe_lcV (i := 4) (own := [("number", 6)]) rfl S.nd (vl (i := 4) rfl) (blkOk_by rfl) (fun _ _ _ _ _ => (dg_name (i := 6) S.nd rfl (.inl rfl) (by decide))) (fun _ _ _ _ _ => pts_yes) (fun _ _ _ _ _ => (de_abs G.b_abs (da_cons (de_var (vl (i := 6) rfl)) da_nil))))) da_nil)))) (de_abs G.b_abs (da_cons (de_ixV (vl (i := 4) rfl) (de_var (vl (i := 3) rfl))) da_nil))) (oe_de (oe_call (w__law_pick G) (hr.mono (by omega)) rfl G.g__law_pick G.F__law_pick.kp (bd__law_pick G) tk (dv_lend (vc (i := 0) rfl) (dv_cons de_int dv_nil)))))) da_nil)))) (dss_one (ds_app (vl (i := 2) rfl) (de_tuple G.b_tuple (da_cons (de_var (vl (i := 4) rfl)) da_nil))))))) (dss_one (ds_ret (de_oe (de_tuple G.b_tuple (da_cons (de_var (vl (i := 2) rfl)) da_nil)))))))
theorem sc__law_ends : FnScope ["low", "high", "many", "found", "row", "column", "pair", "longer", "some", "entry_so"] ["low", "high"] (defScope st__law_ends) := ⟨rfl, rfl, rfl, by decide +kernel, rfl, by decide +kernel, by decide +kernel⟩
theorem w__law_ends (G : Fx K mg) : FnD P w K mg base T 2 (He.fAd K ("_law_ends", none)) G.fd__law_ends ["low", "high"] f__law_ends :=
  fnD_D G.F__law_ends sc__law_ends fun cdv A outer s H E hr tk => by
    have hu := hr.units
    have S := sc__law_ends
    exact (dss_cons (ds_asg (own := [2, 3]) (de_tup (da_cons (de_lenV G.b_len (vl (i := 0) rfl)) (da_cons (oe_de (oe_lst (da_cons (de_tup da_nil) da_nil))) da_nil))) (dg_tup rfl (dgs_cons (dg_name (i := 2) S.nd rfl (.inr rfl) (by decide)) (dgs_cons (dg_name (i := 3) S.nd rfl (.inl rfl) (by decide)) dgs_nil)))) (dss_cons (ds_for (own := [4]) (passes_of rfl) rfl (di_range1 G.b_range (da_cons (de_var (vc (i := 2) rfl)) da_nil)) (dg_name (i := 4) S.nd rfl (.inl rfl) (by decide)) (dss_one (ds_for (own := [5]) (passes_of rfl) rfl (di_range1 G.b_range (da_cons (de_var (vc (i := 2) rfl)) da_nil)) (dg_name (i := 5) S.nd rfl (.inl rfl) (by decide)) (dss_cons (ds_parO (i := 6) (j := 7) rfl S.nd rfl rfl (by decide) rfl rfl (oe_sortedSet rfl G.b_sorted G.b_set (oe_de (oe_lst (da_cons (de_ix (de_ixV (vl (i := 0) rfl) (de_var (vl (i := 4) rfl))) (de_var (vl (i := 5) rfl))) (da_cons (de_ix (de_ixV (vl (i := 1) rfl) (de_var (vl (i := 4) rfl))) (de_var (vl (i := 5) rfl))) da_nil))))) (oe_lst da_nil) rfl) (dss_cons (ds_for (own := [8]) (passes_of rfl) rfl (di_seq (de_var (vl (i := 3) rfl))) (dg_name (i := 8) S.nd rfl (.inr rfl) (by decide)) (dss_one (ds_set (i := 7) S.nd rfl (.inl rfl) (oe_add (de_var (vl (i := 7) rfl)) (oe_de (oe_lc (own := [("entry_so", 9)]) rfl S.nd (di_seq (de_var (vl (i := 6) rfl))) (blkOk_by rfl) (fun _ _ _ _ _ => (dg_name (i := 9) S.nd rfl (.inl rfl) (by decide))) (fun _ _ _ _ _ => pts_yes) (fun _ _ _ _ _ => (oe_de (oe_add (de_var (vc (i := 8) rfl)) (de_tup (da_cons (de_var (vl (i := 9) rfl)) da_nil))))))))))) (dss_one (ds_set (i := 3) S.nd rfl (.inl rfl) (de_oe (de_var (vl (i := 7) rfl)))))))))) (dss_one (ds_ret (oe_lc (own := [("some", 8)]) rfl S.nd (di_seq (de_var (vl (i := 3) rfl))) (blkOk_by rfl) (fun _ _ _ _ _ => (dg_name (i := 8) S.nd rfl (.inr rfl) (by decide))) (fun _ _ _ _ _ => pts_yes) (fun _ _ _ _ _ => (de_tuple G.b_tuple (da_cons (oe_de (oe_lc (own := [("row", 4)]) rfl S.nd (di_range1 G.b_range (da_cons (de_var (vc (i := 2) rfl)) da_nil)) (blkOk_by rfl) (fun _ _ _ _ _ => (dg_name (i := 4) S.nd rfl (.inl rfl) (by decide))) (fun _ _ _ _ _ => pts_yes) (fun _ _ _ _ _ => (oe_de (oe_slice (de_var (vc (i := 8) rfl)) (dp_some (de_mul (de_var (vl (i := 4) rfl)) (de_var (vc (i := 2) rfl)))) (dp_some (oe_de (oe_add (de_mul (de_var (vl (i := 4) rfl)) (de_var (vc (i := 2) rfl))) (de_var (vc (i := 2) rfl)))))))))) da_nil))))))))
theorem sc__law_bounds : FnScope ["deck", "many", "table_so", "low", "high", "row", "one", "other", "entry_so", "less", "more"] ["deck", "many"] (defScope st__law_bounds) := ⟨rfl, rfl, rfl, by decide +kernel, rfl, by decide +kernel, by decide +kernel⟩
theorem w__law_bounds (G : Fx K mg) : FnD P w K mg base T 4 (He.fAd K ("_law_bounds", none)) G.fd__law_bounds ["deck", "many"] f__law_bounds :=
  fnD_D G.F__law_bounds sc__law_bounds fun cdv A outer s H E hr tk => by
    have hu := hr.units
    have S := sc__law_bounds
    exact (dss_cons (ds_set (i := 2) S.nd rfl (.inl rfl) (oe_call (w__law_a_single G) (hr.mono (by omega)) rfl G.g__law_a_single G.F__law_a_single.kp (bd__law_a_single G) tk (dv_lend (vl (i := 0) rfl) (dv_cons (de_var (vl (i := 1) rfl)) dv_nil)))) (dss_cons (ds_parO (i := 3) (j := 4) rfl S.nd rfl rfl (by decide) rfl rfl (oe_lst da_nil) (oe_lst da_nil) rfl) (dss_cons (ds_for (own := [5]) (passes_of rfl) rfl (di_seq (de_var (vl (i := 2) rfl))) (dg_name (i := 5) S.nd rfl (.inl rfl) (by decide)) (dss_cons (ds_parO (i := 6) (j := 7) rfl S.nd rfl rfl (by decide) rfl rfl (oe_lst da_nil) (oe_lst da_nil) rfl) (dss_cons (ds_for (own := [8]) (passes_of rfl) rfl (di_seq (de_var (vl (i := 5) rfl))) (dg_name (i := 8) S.nd rfl (.inl rfl) (by decide)) (dss_cons (ds_par (i := 9) (j := 10) rfl S.nd rfl rfl (by decide) rfl rfl (da_cons (oe_de (oe_call (w__law_one G) (hr.mono (by omega)) rfl G.g__law_one G.F__law_one.kp (bd__law_one G) tk (dv_lend (vl (i := 0) rfl) (dv_cons (oe_de (oe_lst (da_cons de_int (da_cons de_int (da_cons de_int (da_cons de_int (da_cons de_int da_nil))))))) dv_nil)))) (da_cons (oe_de (oe_call (w__law_one G) (hr.mono (by omega)) rfl G.g__law_one G.F__law_one.kp (bd__law_one G) tk (dv_lend (vl (i := 0) rfl) (dv_cons (oe_de (oe_lst (da_cons de_int (da_cons de_int (da_cons de_int (da_cons de_int (da_cons de_int da_nil))))))) dv_nil)))) da_nil)) rfl) (dss_cons (ds_app (vl (i := 6) rfl) (de_max2 rfl G.b_max (da_cons (de_neg de_int) (da_cons (de_sub (de_var (vl (i := 8) rfl)) (de_var (vl (i := 9) rfl))) da_nil)))) (dss_one (ds_app (vl (i := 7) rfl) (de_min2 rfl G.b_min (da_cons de_int (da_cons (oe_de (oe_add (de_var (vl (i := 8) rfl)) (de_var (vl (i := 10) rfl)))) da_nil)))))))) (dss_cons (ds_app (vl (i := 3) rfl) (de_tuple G.b_tuple (da_cons (de_var (vl (i := 6) rfl)) da_nil))) (dss_one (ds_app (vl (i := 4) rfl) (de_tuple G.b_tuple (da_cons (de_var (vl (i := 7) rfl)) da_nil)))))))) (dss_one (ds_ret (de_oe (de_tup (da_cons (de_tuple G.b_tuple (da_cons (de_var (vl (i := 3) rfl)) da_nil)) (da_cons (de_tuple G.b_tuple (da_cons (de_var (vl (i := 4) rfl)) da_nil)) da_nil)))))))))
theorem sc__law_between : FnScope ["deck", "low", "high", "rows", "row", "other", "one", "more"] ["deck", "low", "high"] (defScope st__law_between) := ⟨rfl, rfl, rfl, by decide +kernel, rfl, by decide +kernel, by decide +kernel⟩
theorem w__law_between (G : Fx K mg) : FnD P w K mg base T 3 (He.fAd K ("_law_between", none)) G.fd__law_between ["deck", "low", "high"] f__law_between :=
  fnD_D G.F__law_between sc__law_between fun cdv A outer s H E hr tk => by
    have hu := hr.units
    have S := sc__law_between
    exact (dss_cons (ds_set (i := 3) S.nd rfl (.inl rfl) (oe_lst da_nil)) (dss_cons (ds_for (own := [4, 5]) (passes_of rfl) rfl (di_zip G.b_zip (da_cons (de_var (vl (i := 1) rfl)) (da_cons (de_var (vl (i := 2) rfl)) da_nil))) (dg_tup rfl (dgs_cons (dg_name (i := 4) S.nd rfl (.inl rfl) (by decide)) (dgs_cons (dg_name (i := 5) S.nd rfl (.inl rfl) (by decide)) dgs_nil))) (dss_one (ds_app (vl (i := 3) rfl) (de_tuple G.b_tuple (da_cons (oe_de (oe_lc (own := [("one", 6), ("more", 7)]) rfl S.nd (di_zip G.b_zip (da_cons (de_var (vl (i := 4) rfl)) (da_cons (de_var (vl (i := 5) rfl)) da_nil))) (blkOk_by rfl) (fun _ _ _ _ _ => (dg_tup rfl (dgs_cons (dg_name (i := 6) S.nd rfl (.inl rfl) (by decide)) (dgs_cons (dg_name (i := 7) S.nd rfl (.inl rfl) (by decide)) dgs_nil)))) (fun _ _ _ _ _ => pts_yes) (fun _ _ _ _ _ => (oe_de (oe_add (de_var (vl (i := 6) rfl)) (oe_de (oe_call (w__law_pick G) (hr.mono (by omega)) rfl G.g__law_pick G.F__law_pick.kp (bd__law_pick G) takesF (dv_lend (vc (i := 0) rfl) (dv_cons (oe_de (oe_add (de_sub (de_var (vl (i := 7) rfl)) (de_var (vl (i := 6) rfl))) de_int)) dv_nil))))))))) da_nil))))) (dss_one (ds_ret (de_oe (de_tuple G.b_tuple (da_cons (de_var (vl (i := 3) rfl)) da_nil)))))))
theorem sc_law : FnScope ["script", "cell", "deck", "many", "low", "high", "bad", "told", "turn", "call_so", "odd", "less_so", "p", "r", "e", "n", "o", "z", "one", "two", "truths", "table_so"] ["script"] (defScope st_law) := ⟨rfl, rfl, rfl, by decide +kernel, rfl, by decide +kernel, by decide +kernel⟩
theorem w_law (G : Fx K mg) (KT : KtOk P w K mg base T 1 (He.fAd K ("_law_kin", none)) G.fd__law_kin "e" (He.ga K "TooMany") (He.ga K "GapError") kt) (TB : (LamX.TabB base mg (He.cT K ("law", none)).1 (He.cT K ("law", none)).2)) (hmT : ((He.cT K ("law", none)).2, (envOfC "law" (defScope st_law) 0 0 (.ref 0)).qual ++ "<lambda>") ∈ T) (hT : ∀ p ∈ T, p.1 = (He.cT K ("law", none)).2 → p.2 = (envOfC "law" (defScope st_law) 0 0 (.ref 0)).qual ++ "<lambda>") : FnD P w K mg base T 13 (He.fAd K ("law", none)) G.fd_law ["script"] f_law :=
  fnD_C G.F_law sc_law fun A outer s H E hr tk => by
    have hu := hr.units
    have S := sc_law
    exact (dss_cons (ds_for (own := [1]) (passes_of rfl) rfl (di_seq (oe_de (oe_slice (oe_de (oe_add (oe_de (oe_lst (da_cons de_int da_nil))) (de_var (vl (i := 0) rfl)))) dp_none (dp_some de_int)))) (dg_name (i := 1) S.nd rfl (.inl rfl) (by decide)) (dss_cons (ds_set (i := 2) S.nd rfl (.inl rfl) (oe_call (w__law_deck G) (hr.mono (by omega)) rfl G.g__law_deck G.F__law_deck.kp (bd__law_deck G) tk (dv_cons (de_var (vl (i := 1) rfl)) (dv_cons de_int dv_nil)))) (dss_cons (ds_for (own := [3]) (passes_of rfl) rfl (di_seq (oe_de (oe_lst (da_cons de_int (da_cons de_int (da_cons de_int (da_cons de_int da_nil))))))) (dg_name (i := 3) S.nd rfl (.inl rfl) (by decide)) (dss_cons (ds_asg (own := [4, 5]) (oe_de (oe_call (w__law_bounds G) (hr.mono (by omega)) rfl G.g__law_bounds G.F__law_bounds.kp (bd__law_bounds G) tk (dv_lend (vl (i := 2) rfl) (dv_cons (de_var (vl (i := 3) rfl)) dv_nil)))) (dg_tup rfl (dgs_cons (dg_name (i := 4) S.nd rfl (.inr rfl) (by decide)) (dgs_cons (dg_name (i := 5) S.nd rfl (.inl rfl) (by decide)) dgs_nil)))) (dss_cons (ds_setLc (i := 6) (own := [("table_so", 21)]) rfl S.nd rfl rfl (sw_true rfl rfl rfl rfl) (di_seq (oe_de (oe_call (w__law_ends G) (hr.mono (by omega)) rfl G.g__law_ends G.F__law_ends.kp (bd__law_ends G) tk (dv_cons (de_var (vc (i := 4) rfl)) (dv_cons (de_var (vl (i := 5) rfl)) dv_nil))))) (blkOk_by rfl) (fun _ _ _ _ _ => (dg_name (i := 21) S.nd rfl (.inl rfl) (by decide))) (fun _ _ _ _ _ => (pts_if (dt_not (dt_val (oe_de (oe_call (w__law_is_single G) (hr.mono (by omega)) rfl G.g__law_is_single G.F__law_is_single.kp (bd__law_is_single G) takesF (dv_cons (de_var (vl (i := 21) rfl)) dv_nil))))))) (fun _ _ _ _ _ => (de_var (vl (i := 21) rfl)))) (dss_cons (ds_set (i := 7) S.nd rfl (.inl rfl) (oe_lst (da_cons (oe_de (oe_call (w_first_bad G) (hr.mono (by omega)) rfl G.g_first_bad G.F_first_bad.kp (bd_first_bad G) tk (dv_cons (de_var (vc (i := 4) rfl)) (dv_cons (de_var (vl (i := 5) rfl)) dv_nil)))) (da_cons (oe_de (oe_call (w_all_single G) (hr.mono (by omega)) rfl G.g_all_single G.F_all_single.kp (bd_all_single G) tk (dv_cons (de_var (vc (i := 4) rfl)) (dv_cons (de_var (vl (i := 5) rfl)) dv_nil)))) da_nil)))) (dss_cons (ds_if (dt_not (dt_val (oe_de (oe_call (w__law_same G 8) (hr.mono (by omega)) rfl G.g__law_same G.F__law_same.kp (bd__law_same G) tk (dv_cons (de_var (vl (i := 7) rfl)) (dv_cons (oe_de (oe_lst (da_cons (de_if (dt_ne hu (de_var (vl (i := 6) rfl)) (oe_de (oe_lst da_nil))) (de_ixV (vl (i := 6) rfl) de_int) de_non) (da_cons (de_eq hu (de_var (vl (i := 6) rfl)) (oe_de (oe_lst da_nil))) da_nil)))) dv_nil)))))) (dss_one (ds_ret (de_oe de_bl))) dss_nil) (dss_one (ds_for (own := [8]) (passes_of rfl) rfl (di_range1 G.b_range (da_cons (de_if (dt_eq hu (de_var (vl (i := 6) rfl)) (oe_de (oe_lst da_nil))) de_int de_int) da_nil)) (dg_name (i := 8) S.nd rfl (.inl rfl) (by decide)) (dss_one (ds_if (dt_not (dt_val (oe_de (oe_call (w_is_single G) (hr.mono (by omega)) rfl G.g_is_single G.F_is_single.kp (bd_is_single G) tk (dv_cons (oe_de (oe_call (w__law_between G) (hr.mono (by omega)) rfl G.g__law_between G.F__law_between.kp (bd__law_between G) tk (dv_lend (vl (i := 2) rfl) (dv_cons (de_var (vc (i := 4) rfl)) (dv_cons (de_var (vl (i := 5) rfl)) dv_nil))))) dv_nil))))) (dss_one (ds_ret (de_oe de_bl))) dss_nil))))))))) (dss_one (ds_for (own := [9]) (passes_of rfl) rfl (di_seq (de_tup (da_cons (de_globF G.g_all_single) (da_cons (de_globF G.g_first_bad) da_nil)))) (dg_name (i := 9) S.nd rfl (.inr rfl) (by decide)) (dss_cons (ds_for (own := [10]) (passes_of rfl) rfl (di_seq (oe_de (oe_lst (da_cons de_non (da_cons (de_tup da_nil) (da_cons (de_tup (da_cons (de_tup (da_cons de_int (da_cons de_int da_nil))) da_nil)) (da_cons (oe_de (oe_slice (de_var (vc (i := 4) rfl)) dp_none (dp_some de_int))) (da_cons (oe_de (oe_list G.b_list (da_cons (de_var (vl (i := 5) rfl)) da_nil))) da_nil)))))))) (dg_name (i := 10) S.nd rfl (.inr rfl) (by decide)) (dss_cons (ds_if (dt_ne hu (oe_de (oe_tryD (k := 10) (kk := 1) (kt := kt) rfl G.g__law_try G.F__law_try rfl (bd__law_try G) sc__law_try rfl rfl rfl rfl rfl rfl G.g_TooMany G.g_GapError G.g__law_kin G.F__law_kin.kp (bd__law_kin G) KT TB rfl hmT hT hr (by omega) (LamX.lamS_by rfl) rfl (fun _ _ _ _ _ => rfl) (fun A outer s H E f c hr => by
      have hu := hr.units
      exact (oe_callV (n := 2) (.cons (w_all_single G) (hr.mono (by omega)) G.F_all_single.kp (bd_all_single G) rfl (.cons (w_first_bad G) (hr.mono (by omega)) G.F_first_bad.kp (bd_first_bad G) rfl FnsD.nil)) (vf (i := 9) rfl) takes_lam (dv_cons (de_var (vf (i := 10) rfl)) (dv_cons de_non dv_nil)))))) de_str) (dss_one (ds_ret (de_oe de_bl))) dss_nil) (dss_one (ds_if (dt_ne hu (oe_de (oe_tryD (k := 10) (kk := 1) (kt := kt) rfl G.g__law_try G.F__law_try rfl (bd__law_try G) sc__law_try rfl rfl rfl rfl rfl rfl G.g_TooMany G.g_GapError G.g__law_kin G.F__law_kin.kp (bd__law_kin G) KT TB rfl hmT hT hr (by omega) (LamX.lamS_by rfl) rfl (fun _ _ _ _ _ => rfl) (fun A outer s H E f c hr => by
      have hu := hr.units
      exact (oe_callV (n := 2) (.cons (w_all_single G) (hr.mono (by omega)) G.F_all_single.kp (bd_all_single G) rfl (.cons (w_first_bad G) (hr.mono (by omega)) G.F_first_bad.kp (bd_first_bad G) rfl FnsD.nil)) (vf (i := 9) rfl) takes_lam (dv_cons (de_var (vf (i := 4) rfl)) (dv_cons (de_var (vf (i := 10) rfl)) dv_nil)))))) de_str) (dss_one (ds_ret (de_oe de_bl))) dss_nil)))) (dss_cons (ds_set (i := 11) S.nd rfl (.inr rfl) (oe_add (de_tup (da_cons (oe_de (oe_add (de_tup (da_cons (de_sub (de_ix (de_ixV (vc (i := 4) rfl) de_int) de_int) de_int) da_nil)) (oe_de (oe_slice (de_ixV (vc (i := 4) rfl) de_int) (dp_some de_int) dp_none)))) da_nil)) (oe_de (oe_slice (de_var (vc (i := 4) rfl)) (dp_some de_int) dp_none)))) (dss_one (ds_if (dt_w (dw_and (dt_gt (de_ix (de_ixV (vc (i := 4) rfl) de_int) de_int) (de_neg de_int)) (dw_and1 (dt_ne hu (oe_de (oe_tryD (k := 10) (kk := 1) (kt := kt) rfl G.g__law_try G.F__law_try rfl (bd__law_try G) sc__law_try rfl rfl rfl rfl rfl rfl G.g_TooMany G.g_GapError G.g__law_kin G.F__law_kin.kp (bd__law_kin G) KT TB rfl hmT hT hr (by omega) (LamX.lamS_by rfl) rfl (fun _ _ _ _ _ => rfl) (fun A outer s H E f c hr => by
      have hu := hr.units
      exact (oe_callV (n := 2) (.cons (w_all_single G) (hr.mono (by omega)) G.F_all_single.kp (bd_all_single G) rfl (.cons (w_first_bad G) (hr.mono (by omega)) G.F_first_bad.kp (bd_first_bad G) rfl FnsD.nil)) (vf (i := 9) rfl) takes_lam (dv_cons (de_var (vf (i := 4) rfl)) (dv_cons (de_var (vf (i := 11) rfl)) dv_nil)))))) de_str)))) (dss_one (ds_ret (de_oe de_bl))) dss_nil))))))))) (dss_cons (ds_asg (own := [12, 13, 14, 15, 16, 17]) (oe_de (oe_call0 (w__law_known G) (hr.mono (by omega)) rfl G.g__law_known G.F__law_known.kp (bd__law_known G) tk)) (dg_tup rfl (dgs_cons (dg_name (i := 12) S.nd rfl (.inl rfl) (by decide)) (dgs_cons (dg_name (i := 13) S.nd rfl (.inl rfl) (by decide)) (dgs_cons (dg_name (i := 14) S.nd rfl (.inl rfl) (by decide)) (dgs_cons (dg_name (i := 15) S.nd rfl (.inl rfl) (by decide)) (dgs_cons (dg_name (i := 16) S.nd rfl (.inl rfl) (by decide)) (dgs_cons (dg_name (i := 17) S.nd rfl (.inl rfl) (by decide)) dgs_nil)))))))) (dss_cons (ds_asg (own := [18, 19]) (de_tup (da_cons (de_tup (da_cons (de_tup (da_cons de_int (da_cons (de_neg de_int) da_nil))) (da_cons (de_tup (da_cons (de_neg de_int) (da_cons de_int da_nil))) da_nil))) (da_cons (de_tup (da_cons (de_tup (da_cons de_int (da_cons de_int da_nil))) (da_cons (de_tup (da_cons de_int (da_cons de_int da_nil))) da_nil))) da_nil))) (dg_tup rfl (dgs_cons (dg_name (i := 18) S.nd rfl (.inl rfl) (by decide)) (dgs_cons (dg_name (i := 19) S.nd rfl (.inl rfl) (by decide)) dgs_nil)))) (dss_cons (ds_set (i := 20) S.nd rfl (.inl rfl) (oe_lst (da_cons (oe_de (oe_call (w_all_single G) (hr.mono (by omega)) rfl G.g_all_single G.F_all_single.kp (bd_all_single G) tk (dv_cons (de_var (vl (i := 12) rfl)) (dv_cons (de_var (vl (i := 12) rfl)) dv_nil)))) (da_cons (oe_de (oe_call (w_all_single G) (hr.mono (by omega)) rfl G.g_all_single G.F_all_single.kp (bd_all_single G) tk (dv_cons (de_var (vl (i := 18) rfl)) (dv_cons (de_var (vl (i := 19) rfl)) dv_nil)))) (da_cons (oe_de (oe_call (w_all_single G) (hr.mono (by omega)) rfl G.g_all_single G.F_all_single.kp (bd_all_single G) tk (dv_cons (de_tup (da_cons (de_tup (da_cons de_int (da_cons (de_neg de_int) da_nil))) (da_cons (de_tup (da_cons (de_neg de_int) (da_cons de_int da_nil))) da_nil))) (dv_cons (de_tup (da_cons (de_tup (da_cons de_int (da_cons de_int da_nil))) (da_cons (de_tup (da_cons de_int (da_cons de_int da_nil))) da_nil))) dv_nil)))) da_nil))))) (dss_cons (ds_if (dt_ne hu (de_var (vl (i := 20) rfl)) (oe_de (oe_lst (da_cons de_bl (da_cons de_bl (da_cons de_bl da_nil)))))) (dss_one (ds_ret (de_oe de_bl))) dss_nil) (dss_cons (ds_if (dt_ne hu (oe_de (oe_call (w_first_bad G) (hr.mono (by omega)) rfl G.g_first_bad G.F_first_bad.kp (bd_first_bad G) tk (dv_cons (de_var (vl (i := 18) rfl)) (dv_cons (de_var (vl (i := 19) rfl)) dv_nil)))) (de_var (vl (i := 18) rfl))) (dss_one (ds_ret (de_oe de_bl))) dss_nil) (dss_cons (ds_if (dt_ne hu (oe_de (oe_call (w_first_bad G) (hr.mono (by omega)) rfl G.g_first_bad G.F_first_bad.kp (bd_first_bad G) tk (dv_cons (de_var (vl (i := 12) rfl)) (dv_cons (de_tup (da_cons (de_tup (da_cons de_int (da_cons de_int da_nil))) (da_cons (de_tup (da_cons de_int (da_cons de_int da_nil))) da_nil))) dv_nil)))) (de_tup (da_cons (de_tup (da_cons de_int (da_cons de_int da_nil))) (da_cons (de_tup (da_cons de_int (da_cons de_int da_nil))) da_nil)))) (dss_one (ds_ret (de_oe de_bl))) dss_nil) (dss_cons (ds_if (dt_isNot (oe_de (oe_call (w_first_bad G) (hr.mono (by omega)) rfl G.g_first_bad G.F_first_bad.kp (bd_first_bad G) tk (dv_cons (de_var (vl (i := 12) rfl)) (dv_cons (de_var (vl (i := 12) rfl)) dv_nil)))) de_non) (dss_one (ds_ret (de_oe de_bl))) dss_nil) (dss_cons (ds_if (dt_ne hu (oe_de (oe_call (w_first_bad G) (hr.mono (by omega)) rfl G.g_first_bad G.F_first_bad.kp (bd_first_bad G) tk (dv_cons (de_tup (da_cons (de_tup (da_cons de_int (da_cons (de_neg de_int) da_nil))) (da_cons (de_tup (da_cons (de_neg de_int) (da_cons de_int da_nil))) da_nil))) (dv_cons (de_tup (da_cons (de_tup (da_cons de_int (da_cons de_int da_nil))) (da_cons (de_tup (da_cons de_int (da_cons de_int da_nil))) da_nil))) dv_nil)))) (de_tup (da_cons (de_tup (da_cons de_int (da_cons (de_neg de_int) da_nil))) (da_cons (de_tup (da_cons (de_neg de_int) (da_cons de_int da_nil))) da_nil)))) (dss_one (ds_ret (de_oe de_bl))) dss_nil) (dss_one (ds_ret (oe_call (w_all_single G) (hr.mono (by omega)) rfl G.g_all_single G.F_all_single.kp (bd_all_single G) tk (dv_cons (de_tup (da_cons (de_tup (da_cons de_int (da_cons (de_neg de_int) (da_cons de_int da_nil)))) (da_cons (de_tup (da_cons de_int (da_cons de_int (da_cons (de_neg de_int) da_nil)))) (da_cons (de_tup (da_cons de_int (da_cons de_int (da_cons de_int da_nil)))) da_nil)))) (dv_cons (de_tup (da_cons (de_tup (da_cons de_int (da_cons de_int (da_cons de_int da_nil)))) (da_cons (de_tup (da_cons de_int (da_cons de_int (da_cons de_int da_nil)))) (da_cons (de_tup (da_cons de_int (da_cons de_int (da_cons de_int da_nil)))) da_nil)))) dv_nil))))))))))))))
end
end K08
set_option maxHeartbeats 4000000
namespace K08
open PySem PySem.Spec L2 DL
def DeckOk (b : Nat) (xs : List D) : Prop := ∃ d0 d1 d2 : Int, xs = [.int d0, .int d1, .int d2] ∧ 0 ≤ d1 ∧ d1 < 2147483647 ∧ 0 ≤ d2 ∧ d2 ≤ b
theorem log2_small {i : Int} (h : i.natAbs < 2 ^ 64) : i.natAbs.log2 < 64 := by
  by_cases z : i.natAbs = 0
  · rw [z]
    decide
  · exact (Nat.log2_lt z).mpr h
theorem mulB_small {i j : Int} (hi : i.natAbs < 2 ^ 64) (hj : j.natAbs < 2 ^ 64) : mulB i j = true := by
  have h1 := log2_small hi
  have h2 := log2_small hj
  exact decide_eq_true (by omega)
theorem pick {b : Nat} {xs : List D} {size : Int} (hs : 0 < size) (hs2 : size < 1073741824) (h : DeckOk b xs) (hb : b < 1048576) : ∃ r ys, f__law_pick [.own 1 xs, .d (.int size)] = ⟨.ok (.d (.int r)), ys, true⟩ ∧ 0 ≤ r ∧ r < size ∧ DeckOk (b + 1) ys := by
  obtain ⟨d0, d1, d2, rfl, h1, h2, h3, h4⟩ := h
  have ns : size ≠ 0 := by omega
  have dd : decide (size ≠ 0) = true := decide_eq_true ns
  by_cases hd : 1 < d0
  · refine ⟨d0.fmod size, [.int (d0.fdiv size), .int d1, .int d2], ?_, Int.fmod_nonneg_of_pos _ hs, Int.fmod_lt_of_pos _ hs, d0.fdiv size, d1, d2, rfl, h1, h2, h3, by omega⟩
    refine run_d (g := true) (env := [some (.own 1 [.int (d0.fdiv size), .int d1, .int d2]), some (.d (.int size)), some (.d (.int (d0.fmod size))), none]) ?_ rfl rfl
    refine seqS_ret ((ifS_g (c := decide (1 < d0)) rfl rfl).trans ?_)
    rw [decide_eq_true hd, if_pos rfl]
    refine (seqS_g (e1 := [some (.own 1 [.int d0, .int d1, .int d2]), some (.d (.int size)), some (.d (.int (d0.fmod size))), none]) rfl (by simp [ns])).trans ?_
    refine (seqS_g (e1 := [some (.own 1 [.int (d0.fdiv size), .int d1, .int d2]), some (.d (.int size)), some (.d (.int (d0.fmod size))), none]) (g := decide (size ≠ 0 ∧ (size.natAbs < 1073741824 ∨ (0 < size ∧ size.natAbs.log2 < 9000))) && true) rfl ?_).trans rfl
    rw [decide_eq_true ⟨ns, .inl (by omega)⟩]
    rfl
  · have e0 : decide (1 < d0) = false := decide_eq_false hd
    let n1 : Int := ((d1 + 15485867 * (d2 + 1)) ^ 5).fmod 2147483647
    let n2 : Int := (((n1 + 7919 * (d2 + 1)) ^ 3).fmod 2147483629).fdiv 32
    have b1 : 0 ≤ n1 := Int.fmod_nonneg_of_pos _ (by decide)
    have b2 : n1 < 2147483647 := Int.fmod_lt_of_pos _ (by decide)
    refine ⟨n2.fmod size, [.int d0, .int d1, .int (d2 + 1)], ?_, Int.fmod_nonneg_of_pos _ hs, Int.fmod_lt_of_pos _ hs, d0, d1, d2 + 1, rfl, h1, h2, by omega, by omega⟩
    have a1 : (d1 + 15485867 * (d2 + 1)).natAbs < 18446744073709551616 := by omega
    have a2 : (((d1 + 15485867 * (d2 + 1)) ^ 5).fmod 2147483647 + 7919 * (d2 + 1)).natAbs < 18446744073709551616 := by
      show (n1 + 7919 * (d2 + 1)).natAbs < _
      omega
    have q1 : mulB 15485867 (d2 + 1) = true := mulB_small (by decide) (by omega)
    have q2 : mulB 7919 (d2 + 1) = true := mulB_small (by decide) (by omega)
    exact run_d ((seqS_g ((ifS_g (c := decide (1 < d0)) rfl rfl).trans (by rw [e0]; rfl)) rfl).trans ((seqS_g rfl rfl).trans ((seqS_g rfl (by simp [a1, q1])).trans ((seqS_g rfl (by simp [a2, q2])).trans rfl)))) (by simp [ns]) rfl
def withinB (lo hi : Int) : D → Bool
  | .int i => decide (lo ≤ i) && decide (i ≤ hi)
  | _ => false
theorem is_within_ok {d : D} (h : plainD d = true) (lo hi : Int) : f_is_within [.d d, .d (.int lo), .d (.int hi)] = ⟨.ok (.d (.bl (withinB lo hi d))), [], true⟩ := by
  cases d with
  | int i =>
    show _ = (⟨.ok (.d (.bl (decide (lo ≤ i) && decide (i ≤ hi)))), [], true⟩ : Res)
    cases h1 : decide (lo ≤ i) with
    | true => exact run_d (retS_ok (ofD_ok ((andE_t rfl rfl).trans ((andE_t rfl rfl).trans ((chain2_t rfl rfl rfl rfl (cmp_out (p := leP) h1) rfl).trans rfl))) rfl) rfl) rfl rfl
    | false => exact run_d (retS_ok (ofD_ok ((andE_t rfl rfl).trans ((andE_t rfl rfl).trans (chain2_f rfl rfl rfl rfl (cmp_out (p := leP) h1) rfl))) rfl) rfl) rfl rfl
  | obj a => cases h
  | fn a => cases h
  | _ => rfl
def isTupB : D → Bool
  | .tup _ => true
  | _ => false
def rowB (n : Int) (most : Int) : D → Bool
  | .tup xs => decide ((xs.length : Int) = n) && xs.all (withinB (-most) most)
  | _ => false
/-- data of bounded size, at most n deep -/
def Wf (L : Nat) : Nat → D → Prop
  | _, .non => True
  | _, .bl _ => True
  | _, .int _ => True
  | _, .str s => PyData.canLay0 (.str s) = true
  | n + 1, .tup xs => xs.length ≤ L ∧ ∀ x ∈ xs, Wf L n x
  | n + 1, .lst xs => xs.length ≤ L ∧ ∀ x ∈ xs, Wf L n x
  | _, _ => False
theorem Wf.plain {L : Nat} : ∀ {n : Nat} {d : D}, Wf L n d → plainD d = true
  | n, .obj a, h => by cases n <;> exact h.elim
  | n, .fn a, h => by cases n <;> exact h.elim
  | _, .non, _ => rfl
  | _, .bl _, _ => rfl
  | _, .int _, _ => rfl
  | _, .str _, _ => rfl
  | _, .tup _, _ => rfl
  | _, .lst _, _ => rfl
theorem Wf.items {L : Nat} {xs : List D} : ∀ {n : Nat}, Wf L n (.tup xs) → xs.length ≤ L ∧ ∃ k, n = k + 1 ∧ ∀ x ∈ xs, Wf L k x
  | 0, h => h.elim
  | n + 1, h => ⟨h.1, n, rfl, h.2⟩
theorem neLen (a b : Int) : (D.int a).beq (.int b) = decide (a = b) := by
  show (a == b) = _
  by_cases h : a = b
  · subst h
    simp
  · simp [h]
theorem is_row_ok {L n : Nat} {d : D} (h : Wf L n d) (hL : L ≤ 1000) (size most : Int) : f_is_row [.d d, .d (.int size), .d (.int most)] = ⟨.ok (.d (.bl (rowB size most d))), [], true⟩ := by
  cases d with
  | tup xs =>
    obtain ⟨h1, k, _, h2⟩ := h.items
    have e0 : (D.int (xs.length : Int)).beq (.int size) = decide ((xs.length : Int) = size) := neLen _ _
    show _ = (⟨.ok (.d (.bl (decide ((xs.length : Int) = size) && xs.all (withinB (-most) most)))), [], true⟩ : Res)
    cases hs : decide ((xs.length : Int) = size) with
    | false =>
      refine run_d (g := true) (env := startE 4 [.d (.tup xs), .d (.int size), .d (.int most)]) (seqS_ret (g := true) ((ifS_g (c := !(D.int (xs.length : Int)).beq (.int size)) (g := true) rfl rfl).trans ?_)) rfl rfl
      rw [e0, hs]
      rfl
    | true =>
      refine run_d (g := true) (env := startE 4 [.d (.tup xs), .d (.int size), .d (.int most)]) ((seqS_g (g := true) (e1 := startE 4 [.d (.tup xs), .d (.int size), .d (.int most)]) ((ifS_g (c := !(D.int (xs.length : Int)).beq (.int size)) (g := true) rfl rfl).trans ?_) rfl).trans ?_) rfl rfl
      · rw [e0, hs]
        rfl
      · refine retS_ok (ofD_ok (all_map (withinB (-most) most) (xs := xs) ?_) rfl) rfl
        refine lc_map (own := [3]) (e1 := startE 4 [.d (.tup xs), .d (.int size), .d (.int most)]) (fun x => .bl (withinB (-most) most x)) (xs := xs) rfl rfl (by unfold mx; omega) fun x hx => ?_
        refine ⟨[some (.d (.tup xs)), some (.d (.int size)), some (.d (.int most)), some (.d x)], _, rfl, toD_d (call_0 (args := [.d x, .d (.int (-most)), .d (.int most)]) rfl rfl rfl rfl (is_within_ok (h2 x hx).plain _ _)) rfl, rfl⟩
  | obj a => cases n <;> exact h.elim
  | fn a => cases n <;> exact h.elim
  | _ => rfl
def tabB : D → Bool
  | .tup xs => decide (1 ≤ (xs.length : Int)) && (decide ((xs.length : Int) ≤ 3) && xs.all (rowB xs.length 9))
  | _ => false
theorem is_table_value_ok {L n : Nat} {d : D} (h : Wf L n d) (hL : L ≤ 1000) : f_is_table_value [.d d] = ⟨.ok (.d (.bl (tabB d))), [], true⟩ := by
  cases d with
  | tup xs =>
    obtain ⟨h1, k, _, h2⟩ := h.items
    show _ = (⟨.ok (.d (.bl (decide (1 ≤ (xs.length : Int)) && (decide ((xs.length : Int) ≤ 3) && xs.all (rowB xs.length 9))))), [], true⟩ : Res)
    have t1 : (chain2 (cmpF leP) (cmpF leP) (constE (.int 1)) (lenV 0) (constE (.int 3))) (startE 2 [.d (.tup xs)]) = ⟨.ok (.bl (decide (1 ≤ (xs.length : Int)) && decide ((xs.length : Int) ≤ 3))), startE 2 [.d (.tup xs)], true⟩ := by
      refine (bnd_g (g := true) rfl rfl).trans ((bnd_g (g := true) rfl rfl).trans ((bnd_g (x := decide (1 ≤ (xs.length : Int))) (g := true) rfl rfl).trans ?_))
      cases decide (1 ≤ (xs.length : Int)) <;> rfl
    have t2 : (orT (notT (tB (isiE .tup (varE 0)))) (notT (tB (chain2 (cmpF leP) (cmpF leP) (constE (.int 1)) (lenV 0) (constE (.int 3)))))) (startE 2 [.d (.tup xs)]) = ⟨.ok (!(decide (1 ≤ (xs.length : Int)) && decide ((xs.length : Int) ≤ 3))), startE 2 [.d (.tup xs)], true⟩ :=
      (orT_f (g := true) rfl rfl).trans (notT_ok (tB_ok t1 rfl) rfl)
    rw [← Bool.and_assoc]
    cases hs : (decide (1 ≤ (xs.length : Int)) && decide ((xs.length : Int) ≤ 3)) with
    | false =>
      refine run_d (g := true) (env := startE 2 [.d (.tup xs)]) (seqS_ret (g := true) ((ifS_g t2 rfl).trans ?_)) rfl rfl
      rw [hs]
      rfl
    | true =>
      refine run_d (g := true) (env := startE 2 [.d (.tup xs)]) ((seqS_g (g := true) (e1 := startE 2 [.d (.tup xs)]) ((ifS_g t2 rfl).trans ?_) rfl).trans ?_) rfl rfl
      · rw [hs]
        rfl
      · refine retS_ok (ofD_ok (all_map (rowB xs.length 9) (xs := xs) ?_) rfl) rfl
        refine lc_map (own := [1]) (e1 := startE 2 [.d (.tup xs)]) (fun x => .bl (rowB xs.length 9 x)) (xs := xs) rfl rfl (by unfold mx; omega) fun x hx => ?_
        refine ⟨[some (.d (.tup xs)), some (.d x)], _, rfl, toD_d (call_0 (args := [.d x, .d (.int xs.length), .d (.int 9)]) rfl rfl rfl rfl (is_row_ok (h2 x hx) hL _ _)) rfl, rfl⟩
  | obj a => cases n <;> exact h.elim
  | fn a => cases n <;> exact h.elim
  | _ => rfl
theorem Wf.mono {L : Nat} : ∀ {n : Nat} {d : D}, Wf L n d → Wf L (n + 1) d
  | _, .non, _ => trivial
  | _, .bl _, _ => trivial
  | _, .int _, _ => trivial
  | n, .str _, h => by cases n <;> exact h
  | 0, .tup _, h => h.elim
  | 0, .lst _, h => h.elim
  | n, .obj _, h => by cases n <;> exact h.elim
  | n, .fn _, h => by cases n <;> exact h.elim
  | n + 1, .tup xs, h => ⟨h.1, fun x hx => Wf.mono (h.2 x hx)⟩
  | n + 1, .lst xs, h => ⟨h.1, fun x hx => Wf.mono (h.2 x hx)⟩
theorem Wf.lay {L : Nat} : ∀ {n : Nat} {d : D}, Wf L n d → d.py.canLay0 = true ∧ d.py.depth ≤ n
  | _, .non, _ => ⟨by show PyData.canLay0 .none = true; simp [PyData.canLay0], by show PyData.depth .none ≤ _; simp [PyData.depth]⟩
  | _, .bl b, _ => ⟨by show PyData.canLay0 (.bool b) = true; simp [PyData.canLay0], by show PyData.depth (.bool b) ≤ _; simp [PyData.depth]⟩
  | _, .int i, _ => ⟨by show PyData.canLay0 (.int i) = true; simp [PyData.canLay0], by show PyData.depth (.int i) ≤ _; simp [PyData.depth]⟩
  | n, .str s, h => ⟨by cases n <;> exact h, by show PyData.depth (.str s) ≤ _; simp [PyData.depth]⟩
  | 0, .tup _, h => h.elim
  | 0, .lst _, h => h.elim
  | n, .obj _, h => by cases n <;> exact h.elim
  | n, .fn _, h => by cases n <;> exact h.elim
  | n + 1, .tup xs, h => by
    have q : ∀ ys : List D, (∀ x ∈ ys, Wf L n x) → PyData.canLayAll0 (pyAll ys) = true ∧ PyData.depthAll (pyAll ys) ≤ n := fun ys => by
      induction ys with
      | nil => exact fun _ => ⟨by simp [pyAll, PyData.canLayAll0], by simp [pyAll, PyData.depthAll]⟩
      | cons y ys ih =>
        intro hy
        obtain ⟨a1, a2⟩ := Wf.lay (hy y List.mem_cons_self)
        obtain ⟨b1, b2⟩ := ih fun x hx => hy x (List.mem_cons_of_mem _ hx)
        refine ⟨?_, ?_⟩
        · show PyData.canLayAll0 (y.py :: pyAll ys) = true
          rw [PyData.canLayAll0, a1, b1]
          rfl
        · show PyData.depthAll (y.py :: pyAll ys) ≤ n
          rw [PyData.depthAll]
          omega
    obtain ⟨q1, q2⟩ := q xs h.2
    refine ⟨?_, ?_⟩
    · show PyData.canLay0 (.tuple (pyAll xs)) = true
      rw [PyData.canLay0]
      exact q1
    · show PyData.depth (.tuple (pyAll xs)) ≤ n + 1
      rw [PyData.depth]
      omega
  | n + 1, .lst xs, h => by
    have q : ∀ ys : List D, (∀ x ∈ ys, Wf L n x) → PyData.canLayAll0 (pyAll ys) = true ∧ PyData.depthAll (pyAll ys) ≤ n := fun ys => by
      induction ys with
      | nil => exact fun _ => ⟨by simp [pyAll, PyData.canLayAll0], by simp [pyAll, PyData.depthAll]⟩
      | cons y ys ih =>
        intro hy
        obtain ⟨a1, a2⟩ := Wf.lay (hy y List.mem_cons_self)
        obtain ⟨b1, b2⟩ := ih fun x hx => hy x (List.mem_cons_of_mem _ hx)
        refine ⟨?_, ?_⟩
        · show PyData.canLayAll0 (y.py :: pyAll ys) = true
          rw [PyData.canLayAll0, a1, b1]
          rfl
        · show PyData.depthAll (y.py :: pyAll ys) ≤ n
          rw [PyData.depthAll]
          omega
    obtain ⟨q1, q2⟩ := q xs h.2
    refine ⟨?_, ?_⟩
    · show PyData.canLay0 (.list (pyAll xs)) = true
      rw [PyData.canLay0]
      exact q1
    · show PyData.depth (.list (pyAll xs)) ≤ n + 1
      rw [PyData.depth]
      omega
theorem Wf.shp {L n : Nat} {d : D} (h : Wf L n d) (hn : n ≤ 64) : d.shp = true := by
  obtain ⟨h1, h2⟩ := h.lay
  unfold D.shp SeqAt.shaped
  rw [h1, decide_eq_true (by omega)]
  rfl
theorem beq_nil (xs : List D) : (D.lst xs).beq (.lst []) = xs.isEmpty := by
  cases xs with
  | nil => rfl
  | cons x r => rfl
theorem shp_nil : (D.lst []).shp = true := by
  unfold D.shp SeqAt.shaped
  rfl
/-- [..] == [] -/
theorem eq_nil {m : M SV} {e e1 : Ev} {xs : List D} (h : m e = ⟨.ok (.own 0 xs), e1, true⟩) (hs : (D.lst xs).shp = true) : (bin2 eqF (toD m) (toD (lstO nilA))) e = ⟨.ok (.bl xs.isEmpty), e1, true⟩ := by
  refine (bnd_g (toD_o h rfl) rfl).trans ((bnd_g (x := D.lst []) (g := true) rfl rfl).trans ?_)
  show (⟨.ok (.bl _), e1, _⟩ : Out D) = _
  rw [beq_nil, hs, shp_nil]
  rfl
def wholeB : D → Bool
  | .int _ => true
  | _ => false
theorem ones_shp : ∀ (xs : List D) (f : D → Option D), (∀ x, f x = none ∨ f x = some (.int 1)) → (D.lst (xs.filterMap f)).shp = true := fun xs f hf => by
  have h : Wf (xs.filterMap f).length 1 (.lst (xs.filterMap f)) := ⟨Nat.le_refl _, fun x hx => by
    obtain ⟨y, _, e⟩ := List.mem_filterMap.mp hx
    rcases hf y with z | z
    · rw [z] at e
      cases e
    · rw [z] at e
      cases e
      trivial⟩
  exact h.shp (by omega)
theorem filt_all (b : D → Bool) : ∀ xs : List D, (xs.filterMap fun x => if b x = true then none else some (D.int 1)).isEmpty = xs.all b
  | [] => rfl
  | x :: r => by
    rw [List.filterMap_cons, List.all_cons]
    cases h : b x with
    | true => simp [filt_all b r]
    | false => simp
def inB (most : Int) (x : D) : Bool := withinB (-most) most x
theorem DeckOk.mono {a b : Nat} {xs : List D} (h : DeckOk a xs) (l : a ≤ b) : DeckOk b xs := by
  obtain ⟨d0, d1, d2, e, h1, h2, h3, h4⟩ := h
  exact ⟨d0, d1, d2, e, h1, h2, h3, by omega⟩
theorem ixN_pos {n : Nat} {i : Int} (h : 0 ≤ i) (h2 : i < n) : ixN n i = some i.toNat := by
  unfold ixN
  rw [if_pos h, if_pos h2]
theorem atI_pos {xs : List D} {i : Int} (h : 0 ≤ i) (h2 : i < xs.length) : ∃ d, atI xs i = some d ∧ d ∈ xs ∧ xs[i.toNat]? = some d := by
  have l : i.toNat < xs.length := by omega
  refine ⟨xs[i.toNat], ?_, List.getElem_mem l, by simp [l]⟩
  unfold atI
  rw [ixN_pos h h2]
  simp [l]
theorem one_ok {b : Nat} {xs some' : List D} (h0 : 0 < some'.length) (hl : some'.length < 1000) (h : DeckOk b xs) (hb : b < 1048576) : ∃ d ys, d ∈ some' ∧ f__law_one [.own 1 xs, .d (.lst some')] = ⟨.ok (.d d), ys, true⟩ ∧ DeckOk (b + 1) ys := by
  obtain ⟨r, ys, e, r0, r1, hd⟩ := pick (size := (some'.length : Int)) (by omega) (by omega) h hb
  obtain ⟨d, e2, hm, _⟩ := atI_pos (xs := some') r0 r1
  refine ⟨d, ys, hm, ?_, hd⟩
  have c1 : (toD (callM f__law_pick (consL 0 (consV (lenV 1) nilV)))) (startE 2 [.own 1 xs, .d (.lst some')]) = ⟨.ok (.int r), [some (.own 1 ys), some (.d (.lst some'))], true⟩ := toD_d (call_1 (i := 0) (t := 1) (ys := xs) (args := [.own 1 xs, .d (.int some'.length)]) (e1 := startE 2 [.own 1 xs, .d (.lst some')]) (as := [.s 0, .v (.int some'.length)]) (g := true) rfl rfl rfl rfl rfl e) rfl
  refine run_d (env := [some (.own 1 ys), some (.d (.lst some'))]) (g := true) (retS_ok (g := true) (ofD_ok (g := true) ((bnd_g c1 rfl).trans ?_) rfl) rfl) rfl rfl
  show (match atI some' r with
    | some d => ret d
    | none => bad) _ = _
  rw [e2]
  rfl
theorem Wf.wide {L M : Nat} (hl : L ≤ M) : ∀ {n : Nat} {d : D}, Wf L n d → Wf M n d
  | n, .non, _ => by cases n <;> trivial
  | n, .bl _, _ => by cases n <;> trivial
  | n, .int _, _ => by cases n <;> trivial
  | n, .str _, h => by cases n <;> exact h
  | 0, .tup _, h => h.elim
  | 0, .lst _, h => h.elim
  | n, .obj _, h => by cases n <;> exact h.elim
  | n, .fn _, h => by cases n <;> exact h.elim
  | n + 1, .tup xs, h => ⟨Nat.le_trans h.1 hl, fun x hx => Wf.wide hl (h.2 x hx)⟩
  | n + 1, .lst xs, h => ⟨Nat.le_trans h.1 hl, fun x hx => Wf.wide hl (h.2 x hx)⟩
theorem Wf.up {L : Nat} {d : D} {n : Nat} (h : Wf L n d) : ∀ k, Wf L (n + k) d
  | 0 => h
  | k + 1 => (h.up k).mono
def Atom : D → Bool
  | .tup _ => false
  | .lst _ => false
  | .obj _ => false
  | .fn _ => false
  | .str _ => false
  | _ => true
theorem Wf.atom {L n : Nat} {d : D} (h : Atom d = true) : Wf L n d := by
  cases d <;> first | (cases h; done) | (cases n <;> trivial)
theorem wf_str {L n : Nat} {s : Str} (h : PyData.canLay0 (.str s) = true) : Wf L n (.str s) := by cases n <;> exact h
/-- the value as data -/
def asD : SV → D
  | .d d => d
  | .own _ xs => .lst xs
theorem call_one {b : Nat} {xs opts : List D} {e e2 : Ev} {m : M SV} {i : Nat} {t : Nat} (h1 : e[i]? = some (some (.own t xs))) (he : e2[i]? = some (some (.own t xs))) (hm : (toD m) e = ⟨.ok (.lst opts), e2, true⟩) (h0 : 0 < opts.length) (hl : opts.length < 1000) (h : DeckOk b xs) (hb : b < 1048576) :
    ∃ d ys, d ∈ opts ∧ callM f__law_one (consL i (consV (toD m) nilV)) e = ⟨.ok (.d d), e2.set i (some (.own t ys)), true⟩ ∧ DeckOk (b + 1) ys := by
  obtain ⟨d, ys, hd, ho, hk⟩ := one_ok h0 hl h hb
  refine ⟨d, ys, hd, call_1 (args := [.own 1 xs, .d (.lst opts)]) (as := [.s i, .v (.lst opts)]) (g := true) (e1 := e2) ?_ rfl ?_ ?_ he ho, hk⟩
  · unfold consL
    rw [h1]
    refine (bnd_g (x := [AV.v (.lst opts)]) (e1 := e2) (g := true) ((bnd_g hm rfl).trans rfl) rfl).trans rfl
  · simp only [mkArgs, he, Option.map]
  · simp only [lentS, he]
theorem call_pick {b : Nat} {xs : List D} {e : Ev} {m : M D} {i : Nat} {t : Nat} {size : Int} (he : e[i]? = some (some (.own t xs))) (hm : m e = ⟨.ok (.int size), e, true⟩) (h0 : 0 < size) (hl : size < 1073741824) (h : DeckOk b xs) (hb : b < 1048576) :
    ∃ r ys, 0 ≤ r ∧ r < size ∧ callM f__law_pick (consL i (consV m nilV)) e = ⟨.ok (.d (.int r)), e.set i (some (.own t ys)), true⟩ ∧ DeckOk (b + 1) ys := by
  obtain ⟨r, ys, ho, r0, r1, hk⟩ := pick h0 hl h hb
  refine ⟨r, ys, r0, r1, call_1 (args := [.own 1 xs, .d (.int size)]) (as := [.s i, .v (.int size)]) (g := true) (e1 := e) ?_ rfl ?_ ?_ he ho, hk⟩
  · unfold consL
    rw [he]
    refine (bnd_g (x := [AV.v (.int size)]) (e1 := e) (g := true) ((bnd_g hm rfl).trans rfl) rfl).trans rfl
  · simp only [mkArgs, he, Option.map]
  · simp only [lentS, he]
def seqD (l : Bool) (zs : List D) : D := if l = true then .lst zs else .tup zs
/-- what a call of the spoiler owes -/
def SpOk (f : Fn) (L k c : Nat) (d : D) : Prop := ∀ b xs, DeckOk b xs → b + c < 1048576 → ∃ v ys, f [.own 1 xs, .d d] = ⟨.ok v, ys, true⟩ ∧ (v = .d (asD v) ∨ ∃ l, v = .own 0 l) ∧ Wf (L + 1) (k + 1) (asD v) ∧ DeckOk (b + c) ys
theorem wf_seq {L k : Nat} {zs : List D} (l : Bool) (h1 : zs.length ≤ L) (h2 : ∀ x ∈ zs, Wf L k x) : Wf L (k + 1) (seqD l zs) := by cases l <;> exact ⟨h1, h2⟩
theorem toD_asD {m : M SV} {e e1 : Ev} {v : SV} (h : m e = ⟨.ok v, e1, true⟩) (hv : v = .d (asD v) ∨ ∃ l, v = .own 0 l) : toD m e = ⟨.ok (asD v), e1, true⟩ := by
  rcases hv with hv | ⟨l, hv⟩
  · rw [hv] at h
    rw [toD_d h rfl]
  · rw [hv] at h ⊢
    exact toD_o h rfl
def IntIn (a b : Int) (d : D) : Prop := ∃ x : Int, d = .int x ∧ a ≤ x ∧ x ≤ b
/-- a valid table: n rows of n small numbers -/
def RowOk (n : Nat) (a b : Int) (d : D) : Prop := ∃ xs, d = .tup xs ∧ xs.length = n ∧ ∀ x ∈ xs, IntIn a b x
def TabOk (n : Nat) (d : D) : Prop := ∃ rs, d = .tup rs ∧ rs.length = n ∧ ∀ r ∈ rs, RowOk n (-9) 9 r
abbrev mRow : M SV := lcO [7] (bnd (consA (varE 1) (nilA)) range1F) (nameT 7) (yesT) (bin2 subF (toD (callM f__law_pick (consL 0 (consV (toD (bin2 addF (bin2 mulF (constE (.int 2)) (varE 2)) (constE (.int 1)))) (nilV))))) (varE 2))
theorem row_ok {b : Nat} {xs rows : List D} {n : Nat} {most great : Int} {at' row turn : Option SV} (hn : n ≤ 3) (hm : 1 ≤ most) (hm9 : most ≤ 9) (hd : DeckOk b xs) (hb : b + 10 < 1048576) :
    ∃ ys ds t2, mRow [some (.own 1 xs), some (.d (.int n)), some (.d (.int most)), some (.d (.int great)), some (.own 0 rows), at', row, turn] = ⟨.ok (.own 0 ds), [some (.own 1 ys), some (.d (.int n)), some (.d (.int most)), some (.d (.int great)), some (.own 0 rows), at', row, t2], true⟩ ∧ ds.length = n ∧ (∀ d ∈ ds, IntIn (-most) most d) ∧ DeckOk (b + n) ys := by
  let E : List D → Ev := fun ys => [some (.own 1 ys), some (.d (.int n)), some (.d (.int most)), some (.d (.int great)), some (.own 0 rows), at', row, none]
  have hr : (bnd (consA (varE 1) (nilA)) range1F) [some (.own 1 xs), some (.d (.int n)), some (.d (.int most)), some (.d (.int great)), some (.own 0 rows), at', row, turn] = ⟨.ok ((List.range (n : Int).toNat).map fun i => .int (0 + (i : Nat))), [some (.own 1 xs), some (.d (.int n)), some (.d (.int most)), some (.d (.int great)), some (.own 0 rows), at', row, turn], true⟩ := by
    refine (bnd_g (x := [D.int n]) (g := true) rfl rfl).trans ?_
    show (⟨_, _, decide (-(2 ^ 62) ≤ (n : Int) ∧ (n : Int) < 2 ^ 62)⟩ : Out _) = _
    rw [decide_eq_true (by omega)]
  have hlen : ((List.range (n : Int).toNat).map fun i => D.int (0 + (i : Nat))).length = n := by simp
  obtain ⟨e4, ds, h1, h2, h3, h4⟩ := lcL_inv (own := [7]) (tg := nameT 7) (tt := yesT) (me := bin2 subF (toD (callM f__law_pick (consL 0 (consV (toD (bin2 addF (bin2 mulF (constE (.int 2)) (varE 2)) (constE (.int 1)))) (nilV))))) (varE 2)) (fun i e => ∃ ys, e = E ys ∧ DeckOk (b + i) ys) (IntIn (-most) most) ((List.range (n : Int).toNat).map fun i => D.int (0 + (i : Nat))) [] 0 (wipeE [7] [some (.own 1 xs), some (.d (.int n)), some (.d (.int most)), some (.d (.int great)), some (.own 0 rows), at', row, turn]) ⟨xs, rfl, hd⟩ (by rw [hlen]; unfold mx; simp; omega) fun i e x hx hI => by
    obtain ⟨ys, rfl, hk⟩ := hI
    have hi : i < n := by
      have := (List.getElem?_eq_some_iff.mp hx).1
      rw [hlen] at this
      exact this
    let E2 : List D → Ev := fun ys => [some (.own 1 ys), some (.d (.int n)), some (.d (.int most)), some (.d (.int great)), some (.own 0 rows), at', row, some (.d x)]
    have sz : (toD (bin2 addF (bin2 mulF (constE (.int 2)) (varE 2)) (constE (.int 1)))) (E2 ys) = ⟨.ok (.int (2 * most + 1)), E2 ys, true⟩ := toD_d rfl (by simp [mulB_small (show (2 : Int).natAbs < 2 ^ 64 by decide) (show most.natAbs < 2 ^ 64 by omega)])
    obtain ⟨r, us, r0, r1, hc, hk2⟩ := call_pick (t := 1) (xs := ys) (i := 0) (e := E2 ys) rfl sz (by omega) (by omega) hk (by omega)
    refine ⟨E2 ys, E2 ys, E2 us, .int (r - most), rfl, rfl, ?_, ⟨r - most, rfl, by omega, by omega⟩, us, rfl, hk2.mono (by omega)⟩
    exact (bin2_ok (toD_d hc rfl) (y := D.int most) (e2 := E2 us) rfl).trans rfl
  obtain ⟨ys, e5, hk⟩ := h4
  refine ⟨ys, ds, _, (lc_ok hr rfl h1).trans (by rw [e5]; rfl), by rw [h2, hlen], h3, hk.mono (by rw [hlen]; omega)⟩
abbrev mFix1 : MS := ifS (tB (bin2 eqF (varE 3) (constE (.int 0)))) (putS 6 (varE 5) (toD (bin2 addF (constE (.int 1)) (toD (callM f__law_pick (consL 0 (consV (constE (.int 9)) (nilV)))))))) (nextS)
abbrev mFix2 : MS := ifS (tB (bin2 eqF (varE 3) (constE (.int 1)))) (putS 6 (varE 5) (toD (callM f__law_pick (consL 0 (consV (toD (bin2 addF (varE 2) (constE (.int 1)))) (nilV)))))) (nextS)
theorem eq_int {e : Ev} {i : Nat} {a c : Int} (h : e[i]? = some (some (.d (.int a)))) : (tB (bin2 eqF (varE i) (constE (.int c)))) e = ⟨.ok (decide (a = c)), e, true⟩ := by
  refine tB_ok (g := true) ((bin2_ok (x := D.int a) (y := D.int c) (e1 := e) (e2 := e) (by unfold varE; rw [h]) rfl).trans ?_) rfl
  show (⟨.ok (.bl ((D.int a).beq (.int c))), e, _⟩ : Out D) = _
  rw [neLen]
  rfl
theorem put_row {n : Nat} {ds : List D} {v : D} {i : Nat} (hi : i < n) (hl : ds.length = n) (h : ∀ d ∈ ds, IntIn (-9) 9 d) (hv : IntIn (-9) 9 v) : (ds.set i v).length = n ∧ ∀ d ∈ ds.set i v, IntIn (-9) 9 d :=
  ⟨by rw [List.length_set, hl], fun d hd => (List.mem_or_eq_of_mem_set hd).elim (h d) fun z => z ▸ hv⟩
theorem fix_ok {b : Nat} {xs rows ds : List D} {n : Nat} {most great : Int} {i : Nat} {turn : Option SV} (hn : n ≤ 3) (hi : i < n) (hm : 1 ≤ most) (hm9 : most ≤ 9) (hl : ds.length = n) (h : ∀ d ∈ ds, IntIn (-9) 9 d) (hd : DeckOk b xs) (hb : b + 10 < 1048576) (rest : MS) :
    ∃ ys ds2, (seqS mFix1 (seqS mFix2 rest)) [some (.own 1 xs), some (.d (.int n)), some (.d (.int most)), some (.d (.int great)), some (.own 0 rows), some (.d (.int i)), some (.own 0 ds), turn] = rest [some (.own 1 ys), some (.d (.int n)), some (.d (.int most)), some (.d (.int great)), some (.own 0 rows), some (.d (.int i)), some (.own 0 ds2), turn] ∧ ds2.length = n ∧ (∀ d ∈ ds2, IntIn (-9) 9 d) ∧ DeckOk (b + 2) ys := by
  have ix : ixN ds.length (i : Int) = some i := by rw [ixN_pos (by omega) (by omega)]; simp
  by_cases g0 : great = 0
  · subst g0
    obtain ⟨r, ys, r0, r1, hc, hk⟩ := call_pick (t := 1) (xs := xs) (i := 0) (e := [some (.own 1 xs), some (.d (.int n)), some (.d (.int most)), some (.d (.int 0)), some (.own 0 rows), some (.d (.int i)), some (.own 0 ds), turn]) (m := constE (.int 9)) (size := 9) rfl rfl (by decide) (by decide) hd (by omega)
    obtain ⟨p1, p2⟩ := put_row (v := .int (1 + r)) hi hl h ⟨1 + r, rfl, by omega, by omega⟩
    refine ⟨ys, ds.set i (.int (1 + r)), (seqS_g (e1 := [some (.own 1 ys), some (.d (.int n)), some (.d (.int most)), some (.d (.int 0)), some (.own 0 rows), some (.d (.int i)), some (.own 0 (ds.set i (.int (1 + r)))), turn]) (g := true) ((ifS_t ((eq_int (c := 0) rfl).trans rfl)).trans ?_) rfl).trans (seqS_g ((ifS_f ((eq_int (c := 1) rfl).trans rfl)).trans rfl) rfl), p1, p2, hk.mono (by omega)⟩
    refine (putS_ok (d := D.int (1 + r)) (k := D.int i) (toD_d ((bin2_ok (x := D.int 1) rfl (toD_d hc rfl)).trans rfl) rfl) rfl rfl).trans ?_
    show (match ixN ds.length (i : Int) with
      | some j => _
      | none => _) = _
    rw [ix]
    rfl
  · by_cases g1 : great = 1
    · subst g1
      have sz : (toD (bin2 addF (varE 2) (constE (.int 1)))) [some (.own 1 xs), some (.d (.int n)), some (.d (.int most)), some (.d (.int 1)), some (.own 0 rows), some (.d (.int i)), some (.own 0 ds), turn] = ⟨.ok (.int (most + 1)), [some (.own 1 xs), some (.d (.int n)), some (.d (.int most)), some (.d (.int 1)), some (.own 0 rows), some (.d (.int i)), some (.own 0 ds), turn], true⟩ := rfl
      obtain ⟨r, ys, r0, r1, hc, hk⟩ := call_pick (t := 1) (xs := xs) (i := 0) rfl sz (by omega) (by omega) hd (by omega)
      obtain ⟨p1, p2⟩ := put_row (v := .int r) hi hl h ⟨r, rfl, by omega, by omega⟩
      refine ⟨ys, ds.set i (.int r), (seqS_g ((ifS_f ((eq_int (c := 0) rfl).trans rfl)).trans rfl) rfl).trans (seqS_g (e1 := [some (.own 1 ys), some (.d (.int n)), some (.d (.int most)), some (.d (.int 1)), some (.own 0 rows), some (.d (.int i)), some (.own 0 (ds.set i (.int r))), turn]) (g := true) ((ifS_t ((eq_int (c := 1) rfl).trans rfl)).trans ?_) rfl), p1, p2, hk.mono (by omega)⟩
      refine (putS_ok (d := D.int r) (k := D.int i) (toD_d hc rfl) rfl rfl).trans ?_
      show (match ixN ds.length (i : Int) with
        | some j => _
        | none => _) = _
      rw [ix]
      rfl
    · exact ⟨xs, ds, (seqS_g ((ifS_f ((eq_int (c := 0) rfl).trans (by rw [decide_eq_false g0]))).trans rfl) rfl).trans (seqS_g ((ifS_f ((eq_int (c := 1) rfl).trans (by rw [decide_eq_false g1]))).trans rfl) rfl), hl, h, hd.mono (by omega)⟩
theorem appS_ok {i : Nat} {me : M D} {e e1 : Ev} {d : D} {xs ys : List D} (h : me e = ⟨.ok d, e1, true⟩) (h0 : e[i]? = some (some (.own 0 ys))) (hi : e1[i]? = some (some (.own 0 xs))) (hl : xs.length < mx) : appS i me e = ⟨.next, e1.set i (some (.own 0 (xs ++ [d]))), true⟩ := by
  unfold appS
  rw [h0]
  refine (bndS_g (k := appAt i) (g := true) h rfl).trans ?_
  unfold appAt
  rw [hi]
  simp only [decide_eq_true hl]
abbrev mTabBody : MS := seqS (asgS 6 mRow) (seqS mFix1 (seqS mFix2 (appS 4 (bnd (consA (varE 6) (nilA)) tupleF))))
theorem deck_ok (c : Int) : ∃ ys, f__law_deck [.d (.int c), .d (.int 1)] = ⟨.ok (.own 0 ys), [], true⟩ ∧ DeckOk 1 ys := by
  have q0 : 0 ≤ c.fmod 2147483579 := Int.fmod_nonneg_of_pos _ (by decide)
  have q1 : c.fmod 2147483579 < 2147483579 := Int.fmod_lt_of_pos _ (by decide)
  have t : (tB (bin2 (cmpF geP) (varE 0) (bin2 powF (constE (.int 10)) (constE (.int 18))))) (startE 2 [.d (.int c), .d (.int 1)]) = ⟨.ok (decide ((10 : Int) ^ 18 ≤ c)), startE 2 [.d (.int c), .d (.int 1)], true⟩ := tB_ok ((bnd_g (g := true) rfl rfl).trans ((bnd_g (x := D.int (10 ^ 18)) (g := true) rfl rfl).trans (cmp_out (p := geP) rfl))) rfl
  by_cases h : (10 : Int) ^ 18 ≤ c
  · rw [decide_eq_true h] at t
    refine ⟨[.int (c - 10 ^ 18), .int (c.fmod 2147483579), .int 1], run_o (seqS_ret ((ifS_t t).trans rfl)) rfl rfl, ⟨_, _, _, rfl, q0, by omega, by decide, by decide⟩⟩
  · rw [decide_eq_false h] at t
    refine ⟨[.int 0, .int (c.fmod 2147483579), .int 1], run_o ((seqS_g ((ifS_f t).trans rfl) rfl).trans rfl) rfl rfl, ⟨_, _, _, rfl, q0, by omega, by decide, by decide⟩⟩
def sortI : D → Int
  | .bl _ => 1
  | .int _ => 2
  | .str _ => 3
  | .lst _ => 4
  | .tup _ => 5
  | _ => 6
theorem sort_ok {d : D} (h : plainD d = true) : f__law_sort [.d d] = ⟨.ok (.d (.int (sortI d))), [], true⟩ := by
  cases d with
  | obj a => cases h
  | fn a => cases h
  | _ => rfl
theorem Wf.beq {L n : Nat} {d : D} (h : Wf L n d) : d.beq d = true := SeqAt.eqv_refl _ h.lay.1
theorem Wf.itemsL {L : Nat} {xs : List D} : ∀ {n : Nat}, Wf L n (.lst xs) → xs.length ≤ L ∧ ∃ k, n = k + 1 ∧ ∀ x ∈ xs, Wf L k x
  | 0, h => h.elim
  | n + 1, h => ⟨h.1, n, rfl, h.2⟩
theorem ix_item {d x : D} {xs : List D} {i k j : Nat} {e : Ev} (hd : items d = some xs) (hi : xs[i]? = some x) (h1 : e[k]? = some (some (.d d))) (h2 : e[j]? = some (some (.d (.int i)))) : (ixV k (varE j)) e = ⟨.ok x, e, true⟩ := by
  refine (ixV_ok (d := .int i) (e1 := e) (by rw [h1]; rfl) (by unfold varE; rw [h2])).trans ?_
  have l := (List.getElem?_eq_some_iff.mp hi).1
  obtain ⟨z, q1, _, q2⟩ := atI_pos (xs := xs) (i := i) (by omega) (by omega)
  rw [Int.toNat_natCast, hi] at q2
  unfold atS
  rw [h1]
  show atF d (.int i) e = _
  unfold atF
  rw [hd]
  show (match atI xs i with
    | some d => ret d
    | none => bad) e = _
  rw [q1, ← q2]
  rfl
theorem enumD_mem : ∀ {k : Nat} {xs : List D} {y : D}, y ∈ enumD k xs → ∃ i x, xs[i]? = some x ∧ y = .tup [.int ((k + i : Nat) : Int), x]
  | _, [], _, h => by cases h
  | k, x :: xs, y, h => by
    rcases List.mem_cons.mp h with e | e
    · exact ⟨0, x, rfl, e⟩
    · obtain ⟨i, z, h1, h2⟩ := enumD_mem e
      exact ⟨i + 1, z, by simpa using h1, by rw [h2, show k + 1 + i = k + (i + 1) by omega]⟩
theorem call_sort {e : Ev} {i : Nat} {d : D} (hi : e[i]? = some (some (.d d))) (h : plainD d = true) : (toD (callM f__law_sort (consV (varE i) (nilV)))) e = ⟨.ok (.int (sortI d)), e, true⟩ := by
  have hv : (varE i) e = ⟨.ok d, e, true⟩ := by unfold varE; rw [hi]
  exact toD_d (call_0 (args := [.d d]) (consV_ok hv rfl) rfl rfl rfl (sort_ok h)) rfl
abbrev mSame (self : Fn) : MS := seqS (ifS (andT (tB (bin2 (cmpF gtP) (toD (callM f__law_sort (consV (varE 0) (nilV)))) (constE (.int 3)))) (tB (bin2 (cmpF ltP) (toD (callM f__law_sort (consV (varE 0) (nilV)))) (constE (.int 6))))) (seqS (ifS (tB (bin2 neF (lenV 0) (lenV 1))) (retS (ofD (constE (.bl false)))) (nextS)) (retS (ofD (bin2 eqF (toD (lcO [2, 3] (bnd (consA (varE 0) (nilA)) enumF) (tupN 2 (consT (nameT 2) (consT (nameT 3) (nilT)))) (notT (tB (toD (callM self (consV (varE 3) (consV (ixV 1 (varE 2)) (nilV))))))) (varE 2))) (toD (lstO (nilA))))))) (nextS)) (retS (ofD (bin2 eqF (varE 0) (varE 1))))
theorem same_refl : ∀ (n : Nat) {fuel L : Nat} {d : D}, n < fuel → n ≤ 64 → L ≤ 1000 → Wf L n d → f__law_same fuel [.d d, .d d] = ⟨.ok (.d (.bl true)), [], true⟩
  | n, 0, L, d, hf, _, _, _ => by omega
  | n, fuel + 1, L, d, hf, hn, hL, hw => by
    let e : Ev := [some (.d d), some (.d d), none, none]
    have s0 := call_sort (e := e) (i := 0) rfl hw.plain
    have s1 := call_sort (e := e) (i := 1) rfl hw.plain
    have t1 : (tB (bin2 neF (toD (callM f__law_sort (consV (varE 0) (nilV)))) (toD (callM f__law_sort (consV (varE 1) (nilV)))))) e = ⟨.ok false, e, true⟩ := by
      refine tB_ok (g := true) ((bin2_ok s0 s1).trans ?_) rfl
      show (⟨.ok (.bl (!(D.int (sortI d)).beq (.int (sortI d)))), e, _⟩ : Out D) = _
      rw [neLen, decide_eq_true rfl]
      rfl
    have t2 : (andT (tB (bin2 (cmpF gtP) (toD (callM f__law_sort (consV (varE 0) (nilV)))) (constE (.int 3)))) (tB (bin2 (cmpF ltP) (toD (callM f__law_sort (consV (varE 0) (nilV)))) (constE (.int 6))))) e = ⟨.ok (decide (3 < sortI d) && decide (sortI d < 6)), e, true⟩ := by
      have a : (tB (bin2 (cmpF gtP) (toD (callM f__law_sort (consV (varE 0) (nilV)))) (constE (.int 3)))) e = ⟨.ok (decide (3 < sortI d)), e, true⟩ := tB_ok (g := true) ((bin2_ok s0 (y := D.int 3) (e2 := e) rfl).trans (cmp_out (p := gtP) rfl)) rfl
      have b : (tB (bin2 (cmpF ltP) (toD (callM f__law_sort (consV (varE 0) (nilV)))) (constE (.int 6)))) e = ⟨.ok (decide (sortI d < 6)), e, true⟩ := tB_ok (g := true) ((bin2_ok s0 (y := D.int 6) (e2 := e) rfl).trans (cmp_out (p := ltP) rfl)) rfl
      cases h : decide (3 < sortI d) with
      | true =>
        rw [h] at a
        exact (andT_t a rfl).trans b
      | false =>
        rw [h] at a
        exact (andT_f a rfl).trans rfl
    have head : ∀ {o : SOut}, (mSame (f__law_same fuel)) e = o → (m__law_same (f__law_same fuel)) e = o := fun h => (seqS_g ((ifS_f t1).trans rfl) rfl).trans h
    have deep : ∀ xs, items d = some xs → xs.length ≤ 1000 → (decide (3 < sortI d) && decide (sortI d < 6)) = true → (lenV 0) e = ⟨.ok (.int xs.length), e, true⟩ → (lenV 1) e = ⟨.ok (.int xs.length), e, true⟩ → (∀ (i : Nat) x, xs[i]? = some x → ∀ e2 : Ev, e2[1]? = some (some (.d d)) → e2[2]? = some (some (.d (.int i))) → (ixV 1 (varE 2)) e2 = ⟨.ok x, e2, true⟩) → (∀ x ∈ xs, f__law_same fuel [.d x, .d x] = ⟨.ok (.d (.bl true)), [], true⟩) → f__law_same (fuel + 1) [.d d, .d d] = ⟨.ok (.d (.bl true)), [], true⟩ := by
      intro xs hx hl hs l0 l1 hix ih
      rw [hs] at t2
      have t3 : (tB (bin2 neF (lenV 0) (lenV 1))) e = ⟨.ok false, e, true⟩ := by
        refine tB_ok (g := true) ((bin2_ok l0 l1).trans ?_) rfl
        show (⟨.ok (.bl (!(D.int xs.length).beq (.int xs.length))), e, _⟩ : Out D) = _
        rw [neLen, decide_eq_true rfl]
        rfl
      have it : (bnd (consA (varE 0) (nilA)) enumF) e = ⟨.ok (enumD 0 xs), e, true⟩ := by
        refine (bnd_g (x := [d]) (g := true) rfl rfl).trans ?_
        show (match items d with
          | some xs => ret (enumD 0 xs)
          | none => bad) e = _
        rw [hx]
        rfl
      have lc := lc_pure (own := [2, 3]) (tg := tupN 2 (consT (nameT 2) (consT (nameT 3) (nilT)))) (tt := notT (tB (toD (callM (f__law_same fuel) (consV (varE 3) (consV (ixV 1 (varE 2)) (nilV))))))) (me := varE 2) (fun _ => none) it rfl (by rw [enumD_len]; unfold mx; omega) fun y hy => by
        obtain ⟨i, x, h1, h2⟩ := enumD_mem hy
        subst h2
        rw [Nat.zero_add]
        let e2 : Ev := [some (.d d), some (.d d), some (.d (.int i)), some (.d x)]
        refine ⟨e2, e2, e2, rfl, .inl ⟨rfl, notT_ok (tB_ok (toD_d (call_0 (args := [.d x, .d x]) (e1 := e2) (g := true) (consV_ok rfl (consV_ok (hix (i : Nat) x h1 e2 rfl rfl) rfl)) rfl rfl rfl (ih x (List.mem_of_getElem? h1))) rfl) rfl) rfl, rfl⟩⟩
      rw [show (enumD 0 xs).filterMap (fun _ => (none : Option D)) = [] by simp] at lc
      have hq : (bin2 eqF (toD (lcO [2, 3] (bnd (consA (varE 0) (nilA)) enumF) (tupN 2 (consT (nameT 2) (consT (nameT 3) (nilT)))) (notT (tB (toD (callM (f__law_same fuel) (consV (varE 3) (consV (ixV 1 (varE 2)) (nilV))))))) (varE 2))) (toD (lstO (nilA)))) e = ⟨.ok (.bl true), e, true⟩ := (bin2_ok (toD_o lc rfl) (y := .lst []) (e2 := e) rfl).trans rfl
      exact run_d (env := e) (g := true) (head (seqS_ret ((ifS_t t2).trans ((seqS_g ((ifS_f t3).trans rfl) rfl).trans (retS_ok (ofD_ok hq rfl) rfl))))) rfl rfl
    have flat : (decide (3 < sortI d) && decide (sortI d < 6)) = false → f__law_same (fuel + 1) [.d d, .d d] = ⟨.ok (.d (.bl true)), [], true⟩ := by
      intro hs
      rw [hs] at t2
      have hb : (bin2 eqF (varE 0) (varE 1)) e = ⟨.ok (.bl true), e, true⟩ := by
        refine (bin2_ok (x := d) (y := d) (e1 := e) (e2 := e) rfl rfl).trans ?_
        show (⟨.ok (.bl (d.beq d)), e, d.shp && d.shp⟩ : Out D) = _
        rw [hw.beq, hw.shp hn]
        rfl
      exact run_d (env := e) (g := true) (head ((seqS_g ((ifS_f t2).trans rfl) rfl).trans (retS_ok (ofD_ok hb rfl) rfl))) rfl rfl
    cases d with
    | obj a => cases hw.plain
    | fn a => cases hw.plain
    | tup xs =>
      obtain ⟨h1, k, hk, h2⟩ := hw.items
      refine deep xs rfl (by omega) rfl rfl rfl (fun i x hi e2 h1 h2 => ix_item rfl hi h1 h2) fun x hx => same_refl k (by omega) (by omega) hL (h2 x hx)
    | lst xs =>
      obtain ⟨h1, k, hk, h2⟩ := hw.itemsL
      refine deep xs rfl (by omega) rfl rfl rfl (fun i x hi e2 h1 h2 => ix_item rfl hi h1 h2) fun x hx => same_refl k (by omega) (by omega) hL (h2 x hx)
    | str x =>
      exact flat rfl
    | _ =>
      exact flat rfl
abbrev mDetSub : M SV := lcO [6] (seqI (toD (slO (varE 0) (part (constE (.int 1))) (noPart)))) (nameT 6) (yesT) (toD (bin2 addF (toD (slO (varE 6) (noPart) (part (varE 3)))) (toD (slO (varE 6) (part (toD (bin2 addF (varE 3) (constE (.int 1))))) (noPart)))))
abbrev mDetBody (self : Fn) : MS := seqS (asgS 5 mDetSub) (seqS (asgS 1 (bin2 addF (varE 1) (bin2 mulF (bin2 mulF (varE 2) (varE 4)) (toD (callM self (consV (varE 5) (nilV))))))) (asgS 2 (ofD (un1 negF (varE 2)))))
theorem mulB_le {i j : Int} {a b : Nat} (hi : i.natAbs ≤ a) (hj : j.natAbs ≤ b) (ha : a < 2 ^ 64) (hb : b < 2 ^ 64) : mulB i j = true := mulB_small (by omega) (by omega)
theorem abs_mul {i j : Int} {a b : Nat} (hi : i.natAbs ≤ a) (hj : j.natAbs ≤ b) : (i * j).natAbs ≤ a * b := by
  rw [Int.natAbs_mul]
  exact Nat.mul_le_mul hi hj
theorem mul_ok {e e1 e2 : Ev} {m n : M D} {i j : Int} {a b : Nat} (h1 : m e = ⟨.ok (.int i), e1, true⟩) (h2 : n e1 = ⟨.ok (.int j), e2, true⟩) (hi : i.natAbs ≤ a) (hj : j.natAbs ≤ b) (ha : a < 2 ^ 64) (hb : b < 2 ^ 64) : (bin2 mulF m n) e = ⟨.ok (.int (i * j)), e2, true⟩ := by
  refine (bin2_ok h1 h2).trans ?_
  show (⟨_, _, mulB i j⟩ : Out D) = _
  rw [mulB_le hi hj ha hb]
theorem det_body {self : Fn} {rows : D} {T S x v : Int} {i : Nat} {m5 : Option SV} {minor : List D}
    (hl : mDetSub [some (.d rows), some (.d (.int T)), some (.d (.int S)), some (.d (.int i)), some (.d (.int x)), m5, none] = ⟨.ok (.own 0 minor), [some (.d rows), some (.d (.int T)), some (.d (.int S)), some (.d (.int i)), some (.d (.int x)), m5, none], true⟩)
    (hs : self [.d (.lst minor)] = ⟨.ok (.d (.int v)), [], true⟩) (hS : S.natAbs ≤ 1) (hx : x.natAbs ≤ 9) (hv : v.natAbs ≤ 10000) :
    mDetBody self [some (.d rows), some (.d (.int T)), some (.d (.int S)), some (.d (.int i)), some (.d (.int x)), m5, none] = ⟨.next, [some (.d rows), some (.d (.int (T + S * x * v))), some (.d (.int (-S))), some (.d (.int i)), some (.d (.int x)), some (.d (.lst minor)), none], true⟩ := by
  refine (seqS_g (asgS_ok hl rfl) rfl).trans ?_
  have hc : (toD (callM self (consV (varE 5) (nilV)))) [some (.d rows), some (.d (.int T)), some (.d (.int S)), some (.d (.int i)), some (.d (.int x)), some (.own 0 minor), none] = ⟨.ok (.int v), [some (.d rows), some (.d (.int T)), some (.d (.int S)), some (.d (.int i)), some (.d (.int x)), some (.d (.lst minor)), none], true⟩ := toD_d (call_0 (args := [.d (.lst minor)]) rfl rfl rfl rfl hs) rfl
  have p1 : (bin2 mulF (varE 2) (varE 4)) [some (.d rows), some (.d (.int T)), some (.d (.int S)), some (.d (.int i)), some (.d (.int x)), some (.own 0 minor), none] = ⟨.ok (.int (S * x)), [some (.d rows), some (.d (.int T)), some (.d (.int S)), some (.d (.int i)), some (.d (.int x)), some (.own 0 minor), none], true⟩ := mul_ok rfl rfl hS hx (by decide) (by decide)
  have p2 := mul_ok p1 hc (abs_mul hS hx) hv (by decide) (by decide)
  exact (seqS_g (asgS_ok (v := .d (.int (T + S * x * v))) ((bin2_ok (x := D.int T) rfl p2).trans rfl) rfl) rfl).trans rfl
def rowD (xs : List Int) : D := .lst (xs.map .int)
def matD (xs : List (List Int)) : D := .lst (xs.map rowD)
theorem det0 (k : Nat) : f_determinant (k + 1) [.d (.lst [])] = ⟨.ok (.d (.int 1)), [], true⟩ := rfl
theorem det_start {k : Nat} {r : List Int} {rs : List (List Int)} {e : Ev} {t : Int} (hs : (matD (r :: rs)).shp = true) (hl : r.length ≤ 3)
    (h : forL (tupN 2 (consT (nameT 3) (consT (nameT 4) (nilT)))) (mDetBody (f_determinant k)) (enumD 0 (r.map .int)) [some (.d (matD (r :: rs))), some (.d (.int 0)), some (.d (.int 1)), none, none, none, none] = ⟨.next, e, true⟩) (ht : e[1]? = some (some (.d (.int t)))) (hn : e.length = 7) :
    f_determinant (k + 1) [.d (matD (r :: rs))] = ⟨.ok (.d (.int t)), [], true⟩ := by
  have t1 : (tB (bin2 eqF (varE 0) (toD (lstO (nilA))))) (startE 7 [.d (matD (r :: rs))]) = ⟨.ok false, startE 7 [.d (matD (r :: rs))], true⟩ := by
    refine tB_ok (g := true) ((bin2_ok (x := matD (r :: rs)) (y := .lst []) (e1 := startE 7 [.d (matD (r :: rs))]) (e2 := startE 7 [.d (matD (r :: rs))]) rfl rfl).trans ?_) rfl
    show (⟨.ok (.bl ((matD (r :: rs)).beq (.lst []))), _, (matD (r :: rs)).shp && (D.lst []).shp⟩ : Out D) = _
    rw [hs]
    rfl
  have t3 : (takeO 1) e = ⟨.ok (.d (.int t)), e, true⟩ := by unfold takeO; rw [ht]
  have ix : (bnd (consA (ixV 0 (constE (.int 0))) (nilA)) enumF) [some (.d (matD (r :: rs))), some (.d (.int 0)), some (.d (.int 1)), none, none, none, none] = ⟨.ok (enumD 0 (r.map .int)), [some (.d (matD (r :: rs))), some (.d (.int 0)), some (.d (.int 1)), none, none, none, none], true⟩ := by
    have z : atI (rowD r :: rs.map rowD) 0 = some (rowD r) := by
      obtain ⟨z, q1, _, q2⟩ := atI_pos (xs := rowD r :: rs.map rowD) (i := 0) (by decide) (by rw [List.length_cons]; omega)
      rw [q1]
      simpa using q2.symm
    refine (bnd_g (x := [rowD r]) (g := true) ((bnd_g (x := rowD r) (g := true) ((ixV_ok (d := .int 0) rfl rfl).trans ?_) rfl).trans rfl) rfl).trans rfl
    show (match atI (rowD r :: rs.map rowD) 0 with
      | some d => ret d
      | none => bad) _ = _
    rw [z]
    rfl
  exact run_d ((seqS_g ((ifS_f t1).trans rfl) rfl).trans ((seqS_g (e1 := [some (.d (matD (r :: rs))), some (.d (.int 0)), some (.d (.int 1)), none, none, none, none]) (g := true) rfl rfl).trans ((seqS_g ((forS_g (g := true) ix rfl).trans h) rfl).trans (retS_ok t3 rfl)))) rfl (by cases e with | nil => cases hn | cons => rfl)
theorem det1 {k : Nat} {a : Int} (ha : a.natAbs ≤ 9) : f_determinant (k + 2) [.d (matD [[a]])] = ⟨.ok (.d (.int a)), [], true⟩ := by
  have h := (forL_cons (e3 := []) (tg := tupN 2 (consT (nameT 3) (consT (nameT 4) (nilT)))) (r := []) (d := .tup [.int 0, .int a]) (e := [some (.d (matD [[a]])), some (.d (.int 0)), some (.d (.int 1)), none, none, none, none]) rfl (det_body (i := 0) (minor := []) rfl (det0 k) (by decide) ha (by decide))).trans rfl
  exact det_start (t := a) rfl (by simp) h (by simp) rfl
theorem det2 {k : Nat} {a b c d : Int} (ha : a.natAbs ≤ 9) (hb : b.natAbs ≤ 9) (hc : c.natAbs ≤ 9) (hd : d.natAbs ≤ 9) : f_determinant (k + 3) [.d (matD [[a, b], [c, d]])] = ⟨.ok (.d (.int (a * d - b * c))), [], true⟩ := by
  have h := (forL_cons (e3 := []) (tg := tupN 2 (consT (nameT 3) (consT (nameT 4) (nilT)))) (r := [.tup [.int 1, .int b]]) (d := .tup [.int 0, .int a]) (e := [some (.d (matD [[a, b], [c, d]])), some (.d (.int 0)), some (.d (.int 1)), none, none, none, none]) rfl (det_body (i := 0) (minor := [.lst [.int d]]) rfl (det1 (k := k) hd) (by decide) ha (by omega))).trans
    ((forL_cons (e3 := []) rfl (det_body (i := 1) (minor := [.lst [.int c]]) rfl (det1 (k := k) hc) (by decide) hb (by omega))).trans rfl)
  exact det_start (t := a * d - b * c) rfl (by simp) h (by simp; grind) rfl
theorem det3 {k : Nat} {a b c d e f g h i : Int} (ha : a.natAbs ≤ 9) (hb : b.natAbs ≤ 9) (hc : c.natAbs ≤ 9) (hd : d.natAbs ≤ 9) (he : e.natAbs ≤ 9) (hf : f.natAbs ≤ 9) (hg : g.natAbs ≤ 9) (hh : h.natAbs ≤ 9) (hi : i.natAbs ≤ 9) : f_determinant (k + 4) [.d (matD [[a, b, c], [d, e, f], [g, h, i]])] = ⟨.ok (.d (.int (a * (e * i - f * h) - b * (d * i - f * g) + c * (d * h - e * g)))), [], true⟩ := by
  have sm : ∀ {p q r s : Int}, p.natAbs ≤ 9 → q.natAbs ≤ 9 → r.natAbs ≤ 9 → s.natAbs ≤ 9 → (p * q - r * s).natAbs ≤ 10000 := fun hp hq hr hs => by
    have h1 := abs_mul hp hq
    have h2 := abs_mul hr hs
    omega
  have w := (forL_cons (e3 := []) (tg := tupN 2 (consT (nameT 3) (consT (nameT 4) (nilT)))) (r := [.tup [.int 1, .int b], .tup [.int 2, .int c]]) (d := .tup [.int 0, .int a]) (e := [some (.d (matD [[a, b, c], [d, e, f], [g, h, i]])), some (.d (.int 0)), some (.d (.int 1)), none, none, none, none]) rfl (det_body (i := 0) (minor := [.lst [.int e, .int f], .lst [.int h, .int i]]) rfl (det2 (k := k) he hf hh hi) (by decide) ha (sm he hi hf hh))).trans
    ((forL_cons (e3 := []) rfl (det_body (i := 1) (minor := [.lst [.int d, .int f], .lst [.int g, .int i]]) rfl (det2 (k := k) hd hf hg hi) (by decide) hb (sm hd hi hf hg))).trans
    ((forL_cons (e3 := []) rfl (det_body (i := 2) (minor := [.lst [.int d, .int e], .lst [.int g, .int h]]) rfl (det2 (k := k) hd he hg hh) (by decide) hc (sm hd hh he hg))).trans rfl))
  exact det_start (t := a * (e * i - f * h) - b * (d * i - f * g) + c * (d * h - e * g)) rfl (by simp) w (by simp; grind) rfl
theorem ldet0 : f__law_det [.d (matD [])] = ⟨.ok (.d (.int 1)), [], true⟩ := rfl
theorem ldet1 {a : Int} : f__law_det [.d (matD [[a]])] = ⟨.ok (.d (.int a)), [], true⟩ := rfl
theorem ldet2 {a b c d : Int} (ha : a.natAbs ≤ 9) (hb : b.natAbs ≤ 9) (hc : c.natAbs ≤ 9) (hd : d.natAbs ≤ 9) : f__law_det [.d (matD [[a, b], [c, d]])] = ⟨.ok (.d (.int (a * d - b * c))), [], true⟩ := by
  have e : (bin2 subF (bin2 mulF (bin2 atF (ixV 0 (constE (.int 0))) (constE (.int 0))) (bin2 atF (ixV 0 (constE (.int 1))) (constE (.int 1)))) (bin2 mulF (bin2 atF (ixV 0 (constE (.int 0))) (constE (.int 1))) (bin2 atF (ixV 0 (constE (.int 1))) (constE (.int 0))))) (startE 6 [.d (matD [[a, b], [c, d]])]) = ⟨.ok (.int (a * d - b * c)), startE 6 [.d (matD [[a, b], [c, d]])], true⟩ :=
    (bin2_ok (mul_ok (i := a) (j := d) (e1 := startE 6 [.d (matD [[a, b], [c, d]])]) (e2 := startE 6 [.d (matD [[a, b], [c, d]])]) rfl rfl ha hd (by decide) (by decide)) (mul_ok (i := b) (j := c) (e1 := startE 6 [.d (matD [[a, b], [c, d]])]) (e2 := startE 6 [.d (matD [[a, b], [c, d]])]) rfl rfl hb hc (by decide) (by decide))).trans rfl
  exact run_d (env := startE 6 [.d (matD [[a, b], [c, d]])]) (g := true) ((seqS_g (g := true) rfl rfl).trans ((seqS_g (g := true) rfl rfl).trans (seqS_ret ((ifS_t rfl).trans (retS_ok (ofD_ok e rfl) rfl))))) rfl rfl
abbrev mLdet : MS := seqS (par3S 3 4 5 (consA (varE 2) (consA (bin2 modF (toD (bin2 addF (varE 2) (constE (.int 1)))) (constE (.int 3))) (consA (bin2 modF (toD (bin2 addF (varE 2) (constE (.int 2)))) (constE (.int 3))) (nilA))))) (seqS (asgS 1 (bin2 addF (varE 1) (bin2 mulF (bin2 mulF (bin2 atF (ixV 0 (constE (.int 0))) (varE 3)) (bin2 atF (ixV 0 (constE (.int 1))) (varE 4))) (bin2 atF (ixV 0 (constE (.int 2))) (varE 5))))) (asgS 1 (ofD (bin2 subF (varE 1) (bin2 mulF (bin2 mulF (bin2 atF (ixV 0 (constE (.int 0))) (varE 3)) (bin2 atF (ixV 0 (constE (.int 1))) (varE 5))) (bin2 atF (ixV 0 (constE (.int 2))) (varE 4)))))))
theorem ldet_body {d : D} {T a e i f h : Int} {s : D} {x y z : D} {u v w : Option SV}
    (h0 : (par3S 3 4 5 (consA (varE 2) (consA (bin2 modF (toD (bin2 addF (varE 2) (constE (.int 1)))) (constE (.int 3))) (consA (bin2 modF (toD (bin2 addF (varE 2) (constE (.int 2)))) (constE (.int 3))) (nilA))))) [some (.d d), some (.d (.int T)), some (.d s), u, v, w] = ⟨.next, [some (.d d), some (.d (.int T)), some (.d s), some (.d x), some (.d y), some (.d z)], true⟩)
    (h1 : ∀ T, (bin2 atF (ixV 0 (constE (.int 0))) (varE 3)) [some (.d d), some (.d (.int T)), some (.d s), some (.d x), some (.d y), some (.d z)] = ⟨.ok (.int a), [some (.d d), some (.d (.int T)), some (.d s), some (.d x), some (.d y), some (.d z)], true⟩)
    (h2 : ∀ T, (bin2 atF (ixV 0 (constE (.int 1))) (varE 4)) [some (.d d), some (.d (.int T)), some (.d s), some (.d x), some (.d y), some (.d z)] = ⟨.ok (.int e), [some (.d d), some (.d (.int T)), some (.d s), some (.d x), some (.d y), some (.d z)], true⟩)
    (h3 : ∀ T, (bin2 atF (ixV 0 (constE (.int 2))) (varE 5)) [some (.d d), some (.d (.int T)), some (.d s), some (.d x), some (.d y), some (.d z)] = ⟨.ok (.int i), [some (.d d), some (.d (.int T)), some (.d s), some (.d x), some (.d y), some (.d z)], true⟩)
    (h4 : ∀ T, (bin2 atF (ixV 0 (constE (.int 1))) (varE 5)) [some (.d d), some (.d (.int T)), some (.d s), some (.d x), some (.d y), some (.d z)] = ⟨.ok (.int f), [some (.d d), some (.d (.int T)), some (.d s), some (.d x), some (.d y), some (.d z)], true⟩)
    (h5 : ∀ T, (bin2 atF (ixV 0 (constE (.int 2))) (varE 4)) [some (.d d), some (.d (.int T)), some (.d s), some (.d x), some (.d y), some (.d z)] = ⟨.ok (.int h), [some (.d d), some (.d (.int T)), some (.d s), some (.d x), some (.d y), some (.d z)], true⟩)
    (ha : a.natAbs ≤ 9) (he : e.natAbs ≤ 9) (hi : i.natAbs ≤ 9) (hf : f.natAbs ≤ 9) (hh : h.natAbs ≤ 9) :
    mLdet [some (.d d), some (.d (.int T)), some (.d s), u, v, w] = ⟨.next, [some (.d d), some (.d (.int (T + a * e * i - a * f * h))), some (.d s), some (.d x), some (.d y), some (.d z)], true⟩ := by
  refine (seqS_g h0 rfl).trans ?_
  have p := mul_ok (mul_ok (h1 T) (h2 T) ha he (by decide) (by decide)) (h3 T) (abs_mul ha he) hi (by decide) (by decide)
  have q := mul_ok (mul_ok (h1 (T + a * e * i)) (h4 (T + a * e * i)) ha hf (by decide) (by decide)) (h5 (T + a * e * i)) (abs_mul ha hf) hh (by decide) (by decide)
  refine (seqS_g (asgS_ok (v := .d (.int (T + a * e * i))) ((bin2_ok (x := D.int T) rfl p).trans rfl) rfl) rfl).trans ?_
  exact asgS_ok (v := .d (.int (T + a * e * i - a * f * h))) (ofD_ok ((bin2_ok (f := subF) (a := varE 1) (x := D.int (T + a * e * i)) rfl q).trans rfl) rfl) rfl
theorem ldet3 {a b c d e f g h i : Int} (ha : a.natAbs ≤ 9) (hb : b.natAbs ≤ 9) (hc : c.natAbs ≤ 9) (hd : d.natAbs ≤ 9) (he : e.natAbs ≤ 9) (hf : f.natAbs ≤ 9) (hg : g.natAbs ≤ 9) (hh : h.natAbs ≤ 9) (hi : i.natAbs ≤ 9) : f__law_det [.d (matD [[a, b, c], [d, e, f], [g, h, i]])] = ⟨.ok (.d (.int (a * (e * i - f * h) - b * (d * i - f * g) + c * (d * h - e * g)))), [], true⟩ := by
  let m := matD [[a, b, c], [d, e, f], [g, h, i]]
  have w := (forL_cons (e3 := []) (tg := nameT 2) (r := [.int 1, .int 2]) (d := .int 0) (e := [some (.d m), some (.d (.int 0)), none, none, none, none]) rfl (ldet_body (a := a) (e := e) (i := i) (f := f) (h := h) (x := .int 0) (y := .int 1) (z := .int 2) rfl (fun _ => rfl) (fun _ => rfl) (fun _ => rfl) (fun _ => rfl) (fun _ => rfl) ha he hi hf hh)).trans
    ((forL_cons (e3 := []) rfl (ldet_body (a := b) (e := f) (i := g) (f := d) (h := i) (x := .int 1) (y := .int 2) (z := .int 0) rfl (fun _ => rfl) (fun _ => rfl) (fun _ => rfl) (fun _ => rfl) (fun _ => rfl) hb hf hg hd hi)).trans
    ((forL_cons (e3 := []) rfl (ldet_body (a := c) (e := d) (i := h) (f := e) (h := g) (x := .int 2) (y := .int 0) (z := .int 1) rfl (fun _ => rfl) (fun _ => rfl) (fun _ => rfl) (fun _ => rfl) (fun _ => rfl) hc hd hh he hg)).trans rfl))
  have z : 0 + a * e * i - a * f * h + b * f * g - b * d * i + c * d * h - c * e * g = a * (e * i - f * h) - b * (d * i - f * g) + c * (d * h - e * g) := by grind
  rw [← z]
  exact run_d ((seqS_g (g := true) (e1 := startE 6 [.d m]) rfl rfl).trans ((seqS_g (g := true) (e1 := startE 6 [.d m]) rfl rfl).trans ((seqS_g (g := true) (e1 := startE 6 [.d m]) rfl rfl).trans ((seqS_g (g := true) (e1 := [some (.d m), some (.d (.int 0)), none, none, none, none]) rfl rfl).trans ((seqS_g ((forS_g (g := true) rfl rfl).trans w) rfl).trans (retS_ok (g := true) rfl rfl)))))) rfl rfl
def lots : Nat → List D
  | 1 => [.tup [], .tup [.int 0]]
  | 2 => [.tup [], .tup [.int 0], .tup [.int 0, .int 1], .tup [.int 1]]
  | 3 => [.tup [], .tup [.int 0], .tup [.int 0, .int 1], .tup [.int 0, .int 1, .int 2], .tup [.int 0, .int 2], .tup [.int 1], .tup [.int 1, .int 2], .tup [.int 2]]
  | _ => []
theorem lots_ok {n : Nat} (h1 : 1 ≤ n) (h3 : n ≤ 3) : f_lots_of [.d (.int n)] = ⟨.ok (.own 0 (lots n)), [], true⟩ := by
  obtain rfl | rfl | rfl : n = 1 ∨ n = 2 ∨ n = 3 := by omega
  · kernel_rfl
  · kernel_rfl
  · kernel_rfl
theorem bodies_ok {n : Nat} (h1 : 1 ≤ n) (h3 : n ≤ 3) : f__law_bodies [.d (.int n)] = ⟨.ok (.own 0 (lots n)), [], true⟩ := by
  obtain rfl | rfl | rfl : n = 1 ∨ n = 2 ∨ n = 3 := by omega
  · kernel_rfl
  · kernel_rfl
  · kernel_rfl
def Both (T lot : D) (v : Int) : Prop := f_minor_of [.d T, .d lot] = ⟨.ok (.d (.int v)), [], true⟩ ∧ f__law_minor [.d T, .d lot] = ⟨.ok (.d (.int v)), [], true⟩
theorem both_ok {T lot : D} {sub : List (List Int)} {v : Int}
    (h1 : (lcO [2] (seqI (varE 1)) (nameT 2) (yesT) (toD (lcO [3] (seqI (varE 1)) (nameT 3) (yesT) (bin2 atF (ixV 0 (varE 2)) (varE 3))))) (startE 4 [.d T, .d lot]) = ⟨.ok (.own 0 (sub.map rowD)), startE 4 [.d T, .d lot], true⟩)
    (h2 : f__law_part [.d T, .d lot, .d lot] = ⟨.ok (.own 0 (sub.map rowD)), [], true⟩)
    (h3 : f_determinant 5 [.d (matD sub)] = ⟨.ok (.d (.int v)), [], true⟩) (h4 : f__law_det [.d (matD sub)] = ⟨.ok (.d (.int v)), [], true⟩) : Both T lot v := by
  constructor
  · exact run_d (retS_ok (call_0 (args := [.d (matD sub)]) (consV_ok (toD_o h1 rfl) rfl) rfl rfl rfl h3) rfl) rfl rfl
  · exact run_d (retS_ok (call_0 (args := [.d (matD sub)]) (e1 := startE 2 [.d T, .d lot]) (g := true) (consV_ok (toD_o (call_0 (args := [.d T, .d lot, .d lot]) (e1 := startE 2 [.d T, .d lot]) (g := true) rfl rfl rfl rfl h2) rfl) rfl) rfl rfl rfl h4) rfl) rfl rfl
theorem both1 {a : Int} (ha : a.natAbs ≤ 9) : ∀ lot ∈ lots 1, ∃ v, Both (.tup [.tup [.int a]]) lot v := by
  intro lot hz
  rcases List.mem_cons.mp hz with z | hz
  · subst z
    exact ⟨_, both_ok (sub := []) (by kernel_rfl) (by kernel_rfl) (det0 4) (ldet0)⟩
  rcases List.mem_cons.mp hz with z | hz
  · subst z
    exact ⟨_, both_ok (sub := [[a]]) (by kernel_rfl) (by kernel_rfl) (det1 (k := 3) ha) (ldet1)⟩
  cases hz
theorem both2 {a b c d : Int} (ha : a.natAbs ≤ 9) (hb : b.natAbs ≤ 9) (hc : c.natAbs ≤ 9) (hd : d.natAbs ≤ 9) : ∀ lot ∈ lots 2, ∃ v, Both (.tup [.tup [.int a, .int b], .tup [.int c, .int d]]) lot v := by
  intro lot hz
  rcases List.mem_cons.mp hz with z | hz
  · subst z
    exact ⟨_, both_ok (sub := []) (by kernel_rfl) (by kernel_rfl) (det0 4) (ldet0)⟩
  rcases List.mem_cons.mp hz with z | hz
  · subst z
    exact ⟨_, both_ok (sub := [[a]]) (by kernel_rfl) (by kernel_rfl) (det1 (k := 3) ha) (ldet1)⟩
  rcases List.mem_cons.mp hz with z | hz
  · subst z
    exact ⟨_, both_ok (sub := [[a, b], [c, d]]) (by kernel_rfl) (by kernel_rfl) (det2 (k := 2) ha hb hc hd) (ldet2 ha hb hc hd)⟩
  rcases List.mem_cons.mp hz with z | hz
  · subst z
    exact ⟨_, both_ok (sub := [[d]]) (by kernel_rfl) (by kernel_rfl) (det1 (k := 3) hd) (ldet1)⟩
  cases hz
theorem both3 {a b c d e f g h i : Int} (ha : a.natAbs ≤ 9) (hb : b.natAbs ≤ 9) (hc : c.natAbs ≤ 9) (hd : d.natAbs ≤ 9) (he : e.natAbs ≤ 9) (hf : f.natAbs ≤ 9) (hg : g.natAbs ≤ 9) (hh : h.natAbs ≤ 9) (hi : i.natAbs ≤ 9) : ∀ lot ∈ lots 3, ∃ v, Both (.tup [.tup [.int a, .int b, .int c], .tup [.int d, .int e, .int f], .tup [.int g, .int h, .int i]]) lot v := by
  intro lot hz
  rcases List.mem_cons.mp hz with z | hz
  · subst z
    exact ⟨_, both_ok (sub := []) (by kernel_rfl) (by kernel_rfl) (det0 4) (ldet0)⟩
  rcases List.mem_cons.mp hz with z | hz
  · subst z
    exact ⟨_, both_ok (sub := [[a]]) (by kernel_rfl) (by kernel_rfl) (det1 (k := 3) ha) (ldet1)⟩
  rcases List.mem_cons.mp hz with z | hz
  · subst z
    exact ⟨_, both_ok (sub := [[a, b], [d, e]]) (by kernel_rfl) (by kernel_rfl) (det2 (k := 2) ha hb hd he) (ldet2 ha hb hd he)⟩
  rcases List.mem_cons.mp hz with z | hz
  · subst z
    exact ⟨_, both_ok (sub := [[a, b, c], [d, e, f], [g, h, i]]) (by kernel_rfl) (by kernel_rfl) (det3 (k := 1) ha hb hc hd he hf hg hh hi) (ldet3 ha hb hc hd he hf hg hh hi)⟩
  rcases List.mem_cons.mp hz with z | hz
  · subst z
    exact ⟨_, both_ok (sub := [[a, c], [g, i]]) (by kernel_rfl) (by kernel_rfl) (det2 (k := 2) ha hc hg hi) (ldet2 ha hc hg hi)⟩
  rcases List.mem_cons.mp hz with z | hz
  · subst z
    exact ⟨_, both_ok (sub := [[e]]) (by kernel_rfl) (by kernel_rfl) (det1 (k := 3) he) (ldet1)⟩
  rcases List.mem_cons.mp hz with z | hz
  · subst z
    exact ⟨_, both_ok (sub := [[e, f], [h, i]]) (by kernel_rfl) (by kernel_rfl) (det2 (k := 2) he hf hh hi) (ldet2 he hf hh hi)⟩
  rcases List.mem_cons.mp hz with z | hz
  · subst z
    exact ⟨_, both_ok (sub := [[i]]) (by kernel_rfl) (by kernel_rfl) (det1 (k := 3) hi) (ldet1)⟩
  cases hz
theorem len_1 {α : Type} {xs : List α} (h : xs.length = 1) : ∃ a, xs = [a] := ⟨_, List.eq_getElem_of_length_eq_one xs h⟩
theorem len_2 {α : Type} {xs : List α} (h : xs.length = 2) : ∃ a b, xs = [a, b] := ⟨_, _, List.eq_getElem_of_length_eq_two xs h⟩
theorem len_3 {α : Type} {xs : List α} (h : xs.length = 3) : ∃ a b c, xs = [a, b, c] := ⟨_, _, _, List.eq_getElem_of_length_eq_three xs h⟩
theorem int_abs {d : D} (h : IntIn (-9) 9 d) : ∃ x : Int, d = .int x ∧ x.natAbs ≤ 9 := by
  obtain ⟨x, e, h1, h2⟩ := h
  exact ⟨x, e, by omega⟩
theorem minors_ok {n : Nat} {T : D} (h1 : 1 ≤ n) (h3 : n ≤ 3) (h : TabOk n T) : ∃ p : D → Int, ∀ lot ∈ lots n, Both T lot (p lot) := by
  have all : ∀ lot ∈ lots n, ∃ v, Both T lot v := by
    obtain ⟨rs, rfl, hl, hr⟩ := h
    obtain rfl | rfl | rfl : n = 1 ∨ n = 2 ∨ n = 3 := by omega
    · obtain ⟨r0, rfl⟩ := len_1 hl
      obtain ⟨xs0, rfl, l0, b0⟩ := hr r0 (by simp)
      obtain ⟨x00, rfl⟩ := len_1 l0
      obtain ⟨a, rfl, ha⟩ := int_abs (b0 x00 (by simp))
      exact both1 ha
    · obtain ⟨r0, r1, rfl⟩ := len_2 hl
      obtain ⟨xs0, rfl, l0, b0⟩ := hr r0 (by simp)
      obtain ⟨x00, x01, rfl⟩ := len_2 l0
      obtain ⟨a, rfl, ha⟩ := int_abs (b0 x00 (by simp))
      obtain ⟨b, rfl, hb⟩ := int_abs (b0 x01 (by simp))
      obtain ⟨xs1, rfl, l1, b1⟩ := hr r1 (by simp)
      obtain ⟨x10, x11, rfl⟩ := len_2 l1
      obtain ⟨c, rfl, hc⟩ := int_abs (b1 x10 (by simp))
      obtain ⟨d, rfl, hd⟩ := int_abs (b1 x11 (by simp))
      exact both2 ha hb hc hd
    · obtain ⟨r0, r1, r2, rfl⟩ := len_3 hl
      obtain ⟨xs0, rfl, l0, b0⟩ := hr r0 (by simp)
      obtain ⟨x00, x01, x02, rfl⟩ := len_3 l0
      obtain ⟨a, rfl, ha⟩ := int_abs (b0 x00 (by simp))
      obtain ⟨b, rfl, hb⟩ := int_abs (b0 x01 (by simp))
      obtain ⟨c, rfl, hc⟩ := int_abs (b0 x02 (by simp))
      obtain ⟨xs1, rfl, l1, b1⟩ := hr r1 (by simp)
      obtain ⟨x10, x11, x12, rfl⟩ := len_3 l1
      obtain ⟨d, rfl, hd⟩ := int_abs (b1 x10 (by simp))
      obtain ⟨e, rfl, he⟩ := int_abs (b1 x11 (by simp))
      obtain ⟨f, rfl, hf⟩ := int_abs (b1 x12 (by simp))
      obtain ⟨xs2, rfl, l2, b2⟩ := hr r2 (by simp)
      obtain ⟨x20, x21, x22, rfl⟩ := len_3 l2
      obtain ⟨g, rfl, hg⟩ := int_abs (b2 x20 (by simp))
      obtain ⟨h, rfl, hh⟩ := int_abs (b2 x21 (by simp))
      obtain ⟨i, rfl, hi⟩ := int_abs (b2 x22 (by simp))
      exact both3 ha hb hc hd he hf hg hh hi
  classical
  exact ⟨fun l => if z : l ∈ lots n then (all l z).choose else 0, fun l z => by
    show Both T l (if z : l ∈ lots n then (all l z).choose else 0)
    rw [dif_pos z]
    exact (all l z).choose_spec⟩
theorem RowOk.wf {n : Nat} {a b : Int} {d : D} (h : RowOk n a b d) (hn : n ≤ 3) : Wf 3 1 d := by
  obtain ⟨xs, rfl, hl, hx⟩ := h
  exact ⟨by omega, fun x hm => by obtain ⟨i, rfl, _, _⟩ := hx x hm; trivial⟩
theorem TabOk.wf {n : Nat} {d : D} (h : TabOk n d) (hn : n ≤ 3) : Wf 3 2 d := by
  obtain ⟨rs, rfl, hl, hx⟩ := h
  exact ⟨by omega, fun x hm => (hx x hm).wf hn⟩
theorem RowOk.row {n : Nat} {b : Int} {d : D} (h : RowOk n (-b) b d) : rowB n b d = true := by
  obtain ⟨xs, rfl, hl, hx⟩ := h
  show (decide ((xs.length : Int) = n) && xs.all (withinB (-b) b)) = true
  rw [hl, decide_eq_true rfl, Bool.true_and, List.all_eq_true]
  intro x hm
  obtain ⟨i, rfl, h1, h2⟩ := hx x hm
  show (decide (-b ≤ i) && decide (i ≤ b)) = true
  rw [decide_eq_true h1, decide_eq_true h2]
  rfl
theorem TabOk.tab {n : Nat} {d : D} (h : TabOk n d) (h1 : 1 ≤ n) (hn : n ≤ 3) : tabB d = true := by
  obtain ⟨rs, rfl, hl, hx⟩ := h
  show (decide (1 ≤ (rs.length : Int)) && (decide ((rs.length : Int) ≤ 3) && rs.all (rowB rs.length 9))) = true
  rw [hl, decide_eq_true (by omega), decide_eq_true (by omega), Bool.true_and, Bool.true_and, List.all_eq_true]
  exact fun x hm => (hx x hm).row
/-- what the checks of a table say of a valid one -/
theorem need_ok {n : Nat} {d : D} (h : TabOk n d) (h1 : 1 ≤ n) (hn : n ≤ 3) : f_need_table [.d d] = ⟨.ok (.d .non), [], true⟩ := by
  have q := is_table_value_ok (h.wf hn) (by decide)
  rw [h.tab h1 hn] at q
  exact run_n (env := startE 1 [.d d]) (g := true) ((ifS_f (notT_ok (tB_ok (toD_d (call_0 (args := [.d d]) (e1 := startE 1 [.d d]) (g := true) rfl rfl rfl rfl q) rfl) rfl) rfl)).trans rfl) rfl rfl
theorem need_drop {n : Nat} {d : D} {e : Ev} (h : TabOk n d) (h1 : 1 ≤ n) (hn : n ≤ 3) (he : e[0]? = some (some (.d d))) : (dropS (callM f_need_table (consV (varE 0) (nilV)))) e = ⟨.next, e, true⟩ := by
  have hv : (varE 0) e = ⟨.ok d, e, true⟩ := by unfold varE; rw [he]
  exact dropS_ok (call_0 (args := [.d d]) (consV_ok hv rfl) rfl rfl rfl (need_ok h h1 hn)) rfl
theorem lots_it {n : Nat} {d : D} {e : Ev} (h : TabOk n d) (h1 : 1 ≤ n) (hn : n ≤ 3) (he : e[0]? = some (some (.d d))) : (seqI (toD (callM f_lots_of (consV (lenV 0) (nilV))))) e = ⟨.ok (lots n), e, true⟩ ∧ (seqI (toD (callM f__law_bodies (consV (lenV 0) (nilV))))) e = ⟨.ok (lots n), e, true⟩ := by
  obtain ⟨rs, rfl, hl, hx⟩ := h
  have hv : (lenV 0) e = ⟨.ok (.int n), e, true⟩ := by
    unfold lenV
    rw [he]
    show (⟨.ok (.int rs.length), e, true⟩ : Out D) = _
    rw [hl]
  constructor
  · exact (bnd_g (toD_o (call_0 (args := [.d (.int n)]) (consV_ok hv rfl) rfl rfl rfl (lots_ok h1 hn)) rfl) rfl).trans rfl
  · exact (bnd_g (toD_o (call_0 (args := [.d (.int n)]) (consV_ok hv rfl) rfl rfl rfl (bodies_ok h1 hn)) rfl) rfl).trans rfl
theorem lots_len {n : Nat} : (lots n).length ≤ 8 := by
  match n with
  | 0 => decide
  | 1 => decide
  | 2 => decide
  | 3 => decide
  | n + 4 => exact Nat.zero_le _
theorem ones8 {xs : List D} (hl : xs.length ≤ 8) (h : ∀ x ∈ xs, x = .int 1) : (D.lst xs).shp = true := Wf.shp (L := 8) (n := 1) ⟨hl, fun x hx => by rw [h x hx]; trivial⟩ (by decide)
theorem empty_all (p : D → Int) : ∀ xs : List D, (xs.filterMap fun l => if p l ≤ 0 then some (D.int 1) else none).isEmpty = xs.all fun l => decide (0 < p l)
  | [] => rfl
  | l :: xs => by
    by_cases c : p l ≤ 0
    · rw [List.filterMap_cons_some (by rw [if_pos c]), List.all_cons, decide_eq_false (by omega)]
      rfl
    · rw [List.filterMap_cons_none (by rw [if_neg c]), List.all_cons, decide_eq_true (by omega), empty_all p xs]
      rfl
theorem single_ok {n : Nat} {T : D} {p : D → Int} (h : TabOk n T) (h1 : 1 ≤ n) (hn : n ≤ 3) (hp : ∀ lot ∈ lots n, Both T lot (p lot)) :
    f_is_single [.d T] = ⟨.ok (.d (.bl ((lots n).all fun l => decide (0 < p l)))), [], true⟩ ∧ f__law_is_single [.d T] = ⟨.ok (.d (.bl ((lots n).all fun l => decide (0 < p l)))), [], true⟩ := by
  have ll := @lots_len n
  constructor
  · have v : f_is_single_value [.d T] = ⟨.ok (.d (.bl ((lots n).all fun l => decide (0 < p l)))), [], true⟩ := by
      refine run_d (env := startE 2 [.d T]) (g := true) (retS_ok (ofD_ok (all_map (fun l => decide (0 < p l)) (xs := lots n) ?_) rfl) rfl) rfl rfl
      refine lc_map (own := [1]) (e1 := startE 2 [.d T]) (fun l => .bl (decide (0 < p l))) (xs := lots n) (lots_it h h1 hn rfl).1 rfl (by unfold mx; omega) fun l hl => ?_
      refine ⟨[some (.d T), some (.d l)], _, rfl, (bin2_ok (toD_d (call_0 (args := [.d T, .d l]) (e1 := [some (.d T), some (.d l)]) (g := true) rfl rfl rfl rfl (hp l hl).1) rfl) (y := .int 0) (e2 := [some (.d T), some (.d l)]) rfl).trans (cmp_out (p := gtP) rfl), rfl⟩
    exact run_d (env := startE 1 [.d T]) (g := true) ((seqS_g (need_drop h h1 hn rfl) rfl).trans (retS_ok (call_0 (args := [.d T]) (e1 := startE 1 [.d T]) (g := true) rfl rfl rfl rfl v) rfl)) rfl rfl
  · have lc := lc_pure (own := [1]) (e := startE 2 [.d T]) (tg := nameT 1) (tt := tB (bin2 (cmpF leP) (toD (callM f__law_minor (consV (varE 0) (consV (varE 1) (nilV))))) (constE (.int 0)))) (me := constE (.int 1)) (fun l => if p l ≤ 0 then some (.int 1) else none) (lots_it h h1 hn rfl).2 rfl (by unfold mx; omega) fun l hl => by
      let e2 : Ev := [some (.d T), some (.d l)]
      have t : (tB (bin2 (cmpF leP) (toD (callM f__law_minor (consV (varE 0) (consV (varE 1) (nilV))))) (constE (.int 0)))) e2 = ⟨.ok (decide (p l ≤ 0)), e2, true⟩ := tB_ok (g := true) ((bin2_ok (toD_d (call_0 (args := [.d T, .d l]) (e1 := e2) (g := true) rfl rfl rfl rfl (hp l hl).2) rfl) (y := .int 0) (e2 := e2) rfl).trans (cmp_out (p := leP) rfl)) rfl
      by_cases z : p l ≤ 0
      · rw [decide_eq_true z] at t
        exact ⟨e2, e2, e2, rfl, .inr ⟨.int 1, by rw [if_pos z], t, rfl, rfl⟩⟩
      · rw [decide_eq_false z] at t
        exact ⟨e2, e2, e2, rfl, .inl ⟨by rw [if_neg z], t, rfl⟩⟩
    have q : (bin2 eqF (toD (lcO [1] (seqI (toD (callM f__law_bodies (consV (lenV 0) (nilV))))) (nameT 1) (tB (bin2 (cmpF leP) (toD (callM f__law_minor (consV (varE 0) (consV (varE 1) (nilV))))) (constE (.int 0)))) (constE (.int 1)))) (toD (lstO (nilA)))) (startE 2 [.d T]) = ⟨.ok (.bl ((lots n).all fun l => decide (0 < p l))), startE 2 [.d T], true⟩ := by
      rw [← empty_all]
      exact (eq_nil lc (ones8 (Nat.le_trans (List.length_filterMap_le _ _) (by omega)) fun x hx => by
        obtain ⟨l, _, z⟩ := List.mem_filterMap.mp hx
        by_cases c : p l ≤ 0
        · rw [if_pos c] at z
          exact (Option.some.inj z).symm
        · rw [if_neg c] at z
          cases z))
    exact run_d (env := startE 2 [.d T]) (g := true) (retS_ok (ofD_ok q rfl) rfl) rfl rfl
def pairD (p : D → Int) (l : D) : D := .tup [l, .int (p l)]
def dueD (p : D → Int) (n : Nat) : List D := (lots n).map (pairD p)
def lastLot (n : Nat) : D := .tup [.int ((n : Int) - 1)]
theorem lots_shp {n : Nat} : ∀ l ∈ lots n, l.shp = true ∧ Wf 3 1 l := by
  have w : ∀ l ∈ lots n, Wf 3 1 l := by
    match n with
    | 0 => intro l h; cases h
    | 1 =>
      intro l h
      simp only [lots, List.mem_cons, List.not_mem_nil, or_false] at h
      rcases h with h | h <;> subst h <;> exact ⟨by decide, fun x hx => by simp at hx; try (subst hx; trivial)⟩
    | 2 =>
      intro l h
      simp only [lots, List.mem_cons, List.not_mem_nil, or_false] at h
      rcases h with h | h | h | h <;> subst h <;> refine ⟨by decide, fun x hx => ?_⟩ <;> simp only [List.mem_cons, List.not_mem_nil, or_false] at hx
      · subst hx; trivial
      · rcases hx with hx | hx <;> subst hx <;> trivial
      · subst hx; trivial
    | 3 =>
      intro l h
      simp only [lots, List.mem_cons, List.not_mem_nil, or_false] at h
      rcases h with h | h | h | h | h | h | h | h <;> subst h <;> refine ⟨by decide, fun x hx => ?_⟩ <;> simp only [List.mem_cons, List.not_mem_nil, or_false] at hx
      · subst hx; trivial
      · rcases hx with hx | hx <;> subst hx <;> trivial
      · rcases hx with hx | hx | hx <;> subst hx <;> trivial
      · rcases hx with hx | hx <;> subst hx <;> trivial
      · subst hx; trivial
      · rcases hx with hx | hx <;> subst hx <;> trivial
      · subst hx; trivial
    | n + 4 => intro l h; cases h
  exact fun l h => ⟨(w l h).shp (by decide), w l h⟩
theorem last_mem {n : Nat} (h1 : 1 ≤ n) (hn : n ≤ 3) : lastLot n ∈ lots n := by
  obtain rfl | rfl | rfl : n = 1 ∨ n = 2 ∨ n = 3 := by omega
  · exact .tail _ (.head _)
  · exact .tail _ (.tail _ (.tail _ (.head _)))
  · exact .tail _ (.tail _ (.tail _ (.tail _ (.tail _ (.tail _ (.tail _ (.head _)))))))
theorem due_cut (p : D → Int) {n : Nat} (h1 : 1 ≤ n) (hn : n ≤ 3) : (lots n).filterMap (fun l => bif l.beq (.tup []) then none else some (pairD p l)) = (dueD p n).drop 1 ∧ cutD (dueD p n) (some 1) none = (dueD p n).drop 1 ∧ atI (dueD p n) (-1) = some (pairD p (lastLot n)) := by
  obtain rfl | rfl | rfl : n = 1 ∨ n = 2 ∨ n = 3 := by omega
  · exact ⟨by kernel_rfl, by kernel_rfl, by kernel_rfl⟩
  · exact ⟨by kernel_rfl, by kernel_rfl, by kernel_rfl⟩
  · exact ⟨by kernel_rfl, by kernel_rfl, by kernel_rfl⟩
theorem due_wf (p : D → Int) {n : Nat} : Wf 8 3 (.lst ((dueD p n).drop 1)) := by
  refine ⟨?_, fun x hx => ?_⟩
  · rw [List.length_drop]
    unfold dueD
    rw [List.length_map]
    have := @lots_len n
    omega
  · obtain ⟨l, hl, rfl⟩ := List.mem_map.mp (List.mem_of_mem_drop hx)
    refine ⟨by simp, fun y hy => ?_⟩
    simp only [List.mem_cons, List.not_mem_nil, or_false] at hy
    rcases hy with hy | hy
    · rw [hy]
      exact ((lots_shp l hl).2.wide (show 3 ≤ 8 by decide))
    · rw [hy]
      trivial
def oddLots : List D := [.non, .lst [.int 0], .tup [.int 0, .int 0], .tup [.int 3], .tup [.int (-1)], .tup [.bl true], .int 0, .tup [.int 1, .int 0], .str "0"]
def oddTabs : List D := [.non, .tup [], .int 0, .tup [.tup [.int 1, .int 2]]]
theorem try_err {kt : Str → Option Str} {m : M SV} {e : Ev} {x : Exc} {txt : Str} (h : m e = ⟨.error x, e, true⟩) (ha : x.arg = none) (hk : kt x.name = some txt) : (toD (tryM kt m)) e = ⟨.ok (.str txt), e, true⟩ := by
  refine toD_d (g := true) ?_ rfl
  unfold tryM
  rw [h]
  simp only [ha, hk]
theorem varE_ok {e : Ev} {i : Nat} {d : D} (h : e[i]? = some (some (.d d))) : (varE i) e = ⟨.ok d, e, true⟩ := by unfold varE; rw [h]
abbrev mSameT (a b : M D) : M Bool := notT (tB (toD (callM (f__law_same 8) (consV a (consV b (nilV))))))
theorem sameT {a b : M D} {e : Ev} {d : D} {n L : Nat} (h1 : a e = ⟨.ok d, e, true⟩) (h2 : b e = ⟨.ok d, e, true⟩) (hw : Wf L n d) (hn : n < 8) (hL : L ≤ 1000) : (mSameT a b) e = ⟨.ok false, e, true⟩ :=
  notT_ok (tB_ok (toD_d (call_0 (args := [.d d, .d d]) (e1 := e) (g := true) (consV_ok h1 (consV_ok h2 rfl)) rfl rfl rfl (same_refl n hn (by omega) hL hw)) rfl) rfl) rfl
theorem testC {e : Ev} {T : D} {n : Nat} {p : D → Int} (h : e[10]? = some (some (.d T))) (hT : TabOk n T) (h1 : 1 ≤ n) (hn : n ≤ 3) (hp : ∀ lot ∈ lots n, Both T lot (p lot)) : (mSameT (toD (callM f_is_single (consV (varE 10) (nilV)))) (toD (callM f__law_is_single (consV (varE 10) (nilV))))) e = ⟨.ok false, e, true⟩ := by
  refine sameT (d := .bl ((lots n).all fun l => decide (0 < p l))) (n := 0) (L := 0) ?_ ?_ trivial (by decide) (by decide)
  · exact toD_d (call_0 (args := [.d T]) (e1 := e) (g := true) (consV_ok (varE_ok h) rfl) rfl rfl rfl (single_ok hT h1 hn hp).1) rfl
  · exact toD_d (call_0 (args := [.d T]) (e1 := e) (g := true) (consV_ok (varE_ok h) rfl) rfl rfl rfl (single_ok hT h1 hn hp).2) rfl
end K08
set_option maxHeartbeats 4000000
namespace K08
open PySem PySem.Spec L2 DL
-- DLMAC
local macro_rules | `(tactic| walk_at "dl1") => `(tactic| with_reducible first
  | refine ws_seq ?_ | refine seq_n ?_ | refine seq_r ?_ | refine seq_x ?_ | refine ws_asg ?_ | refine ws_ret ?_ | refine ws_if ?_ | refine ws_ift ?_ | refine ws_iff ?_ | refine ws_next ?_
  | refine wp_const ?_ | refine wp_ret ?_ | refine wp_yes ?_ | refine wp_toD ?_ | refine td_d ?_ | refine td_o ?_ | refine wp_ofD ?_ | refine wp_bin2 ?_ | refine wp_un1 ?_ | refine wp_nilA ?_ | refine wp_consA ?_ | refine wp_tup ?_ | refine wp_lst ?_
  | refine wp_tB ?_ | refine tbP ?_ | refine wp_notT ?_ | refine wp_andT ?_ | refine wp_orT ?_ | refine wp_iteM ?_ | refine wp_andE ?_ | refine wp_orE ?_ | refine wp_notE ?_ | refine wp_ift ?_ | refine wp_iff ?_ | refine wp_chain2 ?_
  | refine wp_call ?_ | refine wp_nilV ?_ | refine wp_consV ?_ | refine wp_isi ?_ | refine wp_isi2 ?_ | refine wp_lc ?_ | refine wp_seqI ?_ | refine wp_slO ?_ | refine wp_noPart ?_ | refine wp_part ?_ | refine wp_intO ?_ | refine wp_slT ?_ | refine wp_slL ?_
  | refine wp_neg ?_ | refine wp_sub ?_ | refine wp_add ?_ | refine wp_cmp ?_ | refine wp_eqI ?_ | refine wp_neI ?_ | refine wp_is ?_ | refine wp_isNot ?_ | refine wp_lenT ?_ | refine wp_lenL ?_
  | refine wp_absF ?_ | refine wp_intF ?_ | refine wp_intB ?_ | refine wp_allM ?_ | refine wp_anyM ?_ | refine wp_tupT ?_ | refine wp_tupL ?_ | refine wp_listT ?_ | refine wp_listL ?_ | refine wp_max ?_ | refine wp_min ?_
  | refine ws_asgT ?_ | refine ws_par ?_ | refine ws_par3 ?_ | refine ws_parO ?_ | refine ws_retN ?_ | refine ws_drop ?_ | refine ws_brk ?_ | refine ws_cont ?_ | refine ws_raise ?_ | refine ws_for ?_ | refine ws_for0 ?_ | refine forP_n ?_ | refine forP_r ?_ | refine lp_n ?_ | refine lp_c ?_ | refine lp_b ?_ | refine lp_r ?_ | refine lp_x ?_ | refine ws_while ?_
  | refine itemsT ?_ | refine itemsL ?_ | refine parP ?_ | refine par3P ?_ | refine ws_put ?_ | refine wp_zipL ?_ | refine wp_join ?_ | refine joinP ?_ | refine wp_split ?_ | refine splitP ?_
  | refine wp_try ?_ | refine tryV_d ?_ | refine tryV_o ?_ | refine wp_bnd ?_ | refine ws_bnd ?_)
local macro_rules | `(tactic| walk_at "dl2") => `(tactic| first
  | ((with_reducible apply wp_var); · exact rfl)
  | ((with_reducible apply wp_varO); · exact rfl)
  | ((with_reducible apply wp_take); · exact rfl)
  | ((with_reducible apply wp_takeO); · exact rfl)
  | ((with_reducible apply lenP); · (show _ ≤ (16777216 : Nat); simp; done))
  | ((with_reducible apply wp_lenD); · exact rfl)
  | ((with_reducible apply wp_lenV); · exact rfl)
  | ((with_reducible apply wp_ixV); · exact rfl)
  | ((with_reducible apply wp_atD); · exact rfl)
  | ((with_reducible apply wp_consL); · exact rfl)
  | ((with_reducible apply wp_in); · exact rfl
     · exact rfl)
  | ((with_reducible apply fin_d); · exact rfl)
  | ((with_reducible apply fin_o); · exact rfl)
  | ((with_reducible apply fin_n); · exact rfl)
  | ((with_reducible apply fin_x); · exact rfl)
  | ((with_reducible apply wp_zip); · exact rfl
     · exact rfl)
  | ((with_reducible apply wp_enum); · exact rfl)
  | ((with_reducible apply wp_eq); · exact rfl)
  | ((with_reducible apply wp_ne); · exact rfl)
  | ((with_reducible apply wp_pow); · decide)
  | ((with_reducible apply wp_at); · exact rfl
     · exact rfl)
  | ((with_reducible apply wp_atS); · exact rfl
     · exact rfl)
  | ((with_reducible apply wp_isX); · exact rfl)
  | ((with_reducible apply wp_addL); · (show _ ≤ (16777216 : Nat); first | (simp; done) | (simp; omega) | omega))
  | ((with_reducible apply wp_addT); · (show _ ≤ (16777216 : Nat); first | (simp; done) | (simp; omega) | omega))
  | ((with_reducible apply plainP); · first | exact rfl | assumption)
  | ((with_reducible apply asgP); · exact rfl)
  | ((with_reducible apply someP); · exact rfl)
  | ((with_reducible apply ws_app); · exact rfl)
  | ((with_reducible apply appP); · exact rfl
     · (show _ < (16777216 : Nat); first | (simp; done) | (simp; omega) | omega))
  | ((with_reducible apply ws_putAt); · exact rfl
     · exact rfl)
  | ((with_reducible apply ws_forC); · exact rfl)
  | ((with_reducible apply wp_splitF); · exact rfl)
  | ((with_reducible apply wp_joinF); · exact rfl
     · exact rfl
     · decide)
  | ((with_reducible apply ws_ifT); · exact rfl)
  | ((with_reducible apply ws_ifF); · exact rfl)
  | ((with_reducible apply wp_ifT); · exact rfl)
  | ((with_reducible apply wp_ifF); · exact rfl))
local macro_rules | `(tactic| walk_at "dl") => `(tactic| repeat (first | walk_at "dl1" | walk_at "dl2"))
-- DLEND
/-! products of choices, in order -/
def cpD (acc : List (List D)) (chs : List (List D)) : List (List D) := chs.foldl (fun acc ch => acc.flatMap fun s => ch.map fun c => s ++ [c]) acc
theorem cpD_app (acc : List (List D)) (xs ys : List (List D)) : cpD acc (xs ++ ys) = cpD (cpD acc xs) ys := List.foldl_append
theorem cpD_snoc (acc : List (List D)) (xs : List (List D)) (ch : List D) : cpD acc (xs ++ [ch]) = (cpD acc xs).flatMap fun s => ch.map fun c => s ++ [c] := cpD_app acc xs [ch]
theorem cpD_split : ∀ (chs : List (List D)) (acc : List (List D)), cpD acc chs = acc.flatMap fun a => (cpD [[]] chs).map (a ++ ·)
  | [], acc => by
    show acc = _
    simp [cpD]
  | ch :: r, acc => by
    have e1 : cpD acc (ch :: r) = cpD (acc.flatMap fun s => ch.map fun c => s ++ [c]) r := rfl
    have e2 : cpD [[]] (ch :: r) = cpD (([[]] : List (List D)).flatMap fun s => ch.map fun c => s ++ [c]) r := rfl
    rw [e1, e2, cpD_split r, cpD_split r (([[]] : List (List D)).flatMap fun s => ch.map fun c => s ++ [c])]
    simp only [List.flatMap_cons, List.flatMap_nil, List.append_nil, List.nil_append, List.flatMap_assoc, List.map_flatMap, List.flatMap_map, List.map_map]
    congr 1
    funext a
    congr 1
    funext c
    congr 1
    funext b
    simp
theorem cpD_cons (ps : List (List D)) (r : List (List D)) : cpD [[]] (ps ++ r) = (cpD [[]] ps).flatMap fun a => (cpD [[]] r).map (a ++ ·) := by
  rw [cpD_app, cpD_split r]
theorem cpD_len : ∀ (chs : List (List D)) (s : List D), s ∈ cpD [[]] chs → s.length = chs.length ∧ ∀ i (h : i < s.length), ∃ ch, chs[i]? = some ch ∧ s[i] ∈ ch := by
  intro chs
  suffices h : ∀ (acc : List (List D)) (pre : List (List D)), (∀ s ∈ acc, s.length = pre.length ∧ ∀ i (h : i < s.length), ∃ ch, pre[i]? = some ch ∧ s[i] ∈ ch) → ∀ s ∈ cpD acc chs, s.length = (pre ++ chs).length ∧ ∀ i (h : i < s.length), ∃ ch, (pre ++ chs)[i]? = some ch ∧ s[i] ∈ ch from
    fun s hs => h [[]] [] (fun s hs => by
      rw [List.mem_singleton.mp hs]
      exact ⟨rfl, fun i h => by simp at h⟩) s hs
  induction chs with
  | nil => intro acc pre h s hs; simpa using h s hs
  | cons ch r ih =>
    intro acc pre h s hs
    have := ih (acc.flatMap fun s => ch.map fun c => s ++ [c]) (pre ++ [ch]) (fun t ht => by
      obtain ⟨u, hu, hc⟩ := List.mem_flatMap.mp ht
      obtain ⟨c, hc, rfl⟩ := List.mem_map.mp hc
      obtain ⟨h1, h2⟩ := h u hu
      refine ⟨by simp [h1], fun i hi => ?_⟩
      by_cases z : i < u.length
      · obtain ⟨ch', h3, h4⟩ := h2 i z
        refine ⟨ch', by rw [List.getElem?_append_left (by omega)]; exact h3, ?_⟩
        rw [List.getElem_append_left z]
        exact h4
      · have hi' : i = u.length := by simp at hi; omega
        subst hi'
        refine ⟨ch, by rw [List.getElem?_append_right (by omega), h1]; simp, ?_⟩
        simpa using hc) s hs
    rw [List.append_assoc] at this
    exact this
theorem mem_cpD : ∀ (chs : List (List D)) (s : List D), s.length = chs.length → (∀ i (h : i < s.length), ∃ ch, chs[i]? = some ch ∧ s[i] ∈ ch) → s ∈ cpD [[]] chs
  | [], s, hl, _ => by
    have : s = [] := List.eq_nil_of_length_eq_zero hl
    subst this
    simp [cpD]
  | ch :: r, [], hl, _ => by simp at hl
  | ch :: r, x :: s, hl, h => by
    have e : ch :: r = [ch] ++ r := rfl
    rw [e, cpD_cons]
    refine List.mem_flatMap.mpr ⟨[x], ?_, ?_⟩
    · obtain ⟨c, h1, h2⟩ := h 0 (by simp)
      have : c = ch := by simpa using h1.symm
      subst this
      simp [cpD]
      exact h2
    · refine List.mem_map.mpr ⟨s, mem_cpD r s (by simpa using hl) fun i hi => ?_, rfl⟩
      obtain ⟨c, h1, h2⟩ := h (i + 1) (by simp; omega)
      exact ⟨c, by simpa using h1, by simpa using h2⟩
theorem flatMap_eq {α β : Type} {f g : α → List β} : ∀ {l : List α}, (∀ a ∈ l, f a = g a) → l.flatMap f = l.flatMap g
  | [], _ => rfl
  | a :: r, h => by
    rw [List.flatMap_cons, List.flatMap_cons, h a List.mem_cons_self, flatMap_eq fun b hb => h b (List.mem_cons_of_mem _ hb)]
def chunk (n : Nat) : Nat → List D → List D
  | 0, _ => []
  | k + 1, s => .tup (s.take n) :: chunk n k (s.drop n)
/-- the rows' products are the product of all, cut -/
theorem chunk_cp (n : Nat) : ∀ R : List (List (List D)), (∀ ps ∈ R, ps.length = n) → (cpD [[]] R.flatten).map (chunk n R.length) = cpD [[]] (R.map fun ps => (cpD [[]] ps).map .tup)
  | [], _ => rfl
  | ps :: R, h => by
    have e : (ps :: R).map (fun ps => (cpD [[]] ps).map D.tup) = [(cpD [[]] ps).map .tup] ++ R.map fun ps => (cpD [[]] ps).map .tup := rfl
    rw [e, cpD_cons, List.flatten_cons, cpD_cons, ← chunk_cp n R fun q hq => h q (List.mem_cons_of_mem _ hq)]
    have e1 : cpD [[]] [(cpD [[]] ps).map D.tup] = (cpD [[]] ps).map fun a => [D.tup a] := by
      simp [cpD]
    rw [e1, List.map_flatMap, List.flatMap_map]
    refine flatMap_eq fun a ha => ?_
    have la : a.length = n := by rw [(cpD_len ps a ha).1, h ps List.mem_cons_self]
    rw [List.map_map, List.map_map]
    apply List.map_congr_left
    intro b hb
    show chunk n (R.length + 1) (a ++ b) = [D.tup a] ++ chunk n R.length b
    rw [chunk, List.take_append_of_le_length (by omega), List.take_of_length_le (by omega), List.drop_append_of_le_length (by omega), List.drop_of_length_le (by omega)]
    rfl
end K08
set_option maxHeartbeats 4000000
namespace K08
open PySem PySem.Spec L2 DL
-- DLMAC
local macro_rules | `(tactic| walk_at "dl1") => `(tactic| with_reducible first
  | refine ws_seq ?_ | refine seq_n ?_ | refine seq_r ?_ | refine seq_x ?_ | refine ws_asg ?_ | refine ws_ret ?_ | refine ws_if ?_ | refine ws_ift ?_ | refine ws_iff ?_ | refine ws_next ?_
  | refine wp_const ?_ | refine wp_ret ?_ | refine wp_yes ?_ | refine wp_toD ?_ | refine td_d ?_ | refine td_o ?_ | refine wp_ofD ?_ | refine wp_bin2 ?_ | refine wp_un1 ?_ | refine wp_nilA ?_ | refine wp_consA ?_ | refine wp_tup ?_ | refine wp_lst ?_
  | refine wp_tB ?_ | refine tbP ?_ | refine wp_notT ?_ | refine wp_andT ?_ | refine wp_orT ?_ | refine wp_iteM ?_ | refine wp_andE ?_ | refine wp_orE ?_ | refine wp_notE ?_ | refine wp_ift ?_ | refine wp_iff ?_ | refine wp_chain2 ?_
  | refine wp_call ?_ | refine wp_nilV ?_ | refine wp_consV ?_ | refine wp_isi ?_ | refine wp_isi2 ?_ | refine wp_lc ?_ | refine wp_seqI ?_ | refine wp_slO ?_ | refine wp_noPart ?_ | refine wp_part ?_ | refine wp_intO ?_ | refine wp_slT ?_ | refine wp_slL ?_
  | refine wp_neg ?_ | refine wp_sub ?_ | refine wp_add ?_ | refine wp_cmp ?_ | refine wp_eqI ?_ | refine wp_neI ?_ | refine wp_is ?_ | refine wp_isNot ?_ | refine wp_lenT ?_ | refine wp_lenL ?_
  | refine wp_absF ?_ | refine wp_intF ?_ | refine wp_intB ?_ | refine wp_allM ?_ | refine wp_anyM ?_ | refine wp_tupT ?_ | refine wp_tupL ?_ | refine wp_listT ?_ | refine wp_listL ?_ | refine wp_max ?_ | refine wp_min ?_
  | refine ws_asgT ?_ | refine ws_par ?_ | refine ws_par3 ?_ | refine ws_parO ?_ | refine ws_retN ?_ | refine ws_drop ?_ | refine ws_brk ?_ | refine ws_cont ?_ | refine ws_raise ?_ | refine ws_for ?_ | refine ws_for0 ?_ | refine forP_n ?_ | refine forP_r ?_ | refine lp_n ?_ | refine lp_c ?_ | refine lp_b ?_ | refine lp_r ?_ | refine lp_x ?_ | refine ws_while ?_
  | refine itemsT ?_ | refine itemsL ?_ | refine parP ?_ | refine par3P ?_ | refine ws_put ?_ | refine wp_zipL ?_ | refine wp_join ?_ | refine joinP ?_ | refine wp_split ?_ | refine splitP ?_
  | refine wp_try ?_ | refine tryV_d ?_ | refine tryV_o ?_ | refine wp_bnd ?_ | refine ws_bnd ?_)
local macro_rules | `(tactic| walk_at "dl2") => `(tactic| first
  | ((with_reducible apply wp_var); · exact rfl)
  | ((with_reducible apply wp_varO); · exact rfl)
  | ((with_reducible apply wp_take); · exact rfl)
  | ((with_reducible apply wp_takeO); · exact rfl)
  | ((with_reducible apply lenP); · (show _ ≤ (16777216 : Nat); simp; done))
  | ((with_reducible apply wp_lenD); · exact rfl)
  | ((with_reducible apply wp_lenV); · exact rfl)
  | ((with_reducible apply wp_ixV); · exact rfl)
  | ((with_reducible apply wp_atD); · exact rfl)
  | ((with_reducible apply wp_consL); · exact rfl)
  | ((with_reducible apply wp_in); · exact rfl
     · exact rfl)
  | ((with_reducible apply fin_d); · exact rfl)
  | ((with_reducible apply fin_o); · exact rfl)
  | ((with_reducible apply fin_n); · exact rfl)
  | ((with_reducible apply fin_x); · exact rfl)
  | ((with_reducible apply wp_zip); · exact rfl
     · exact rfl)
  | ((with_reducible apply wp_enum); · exact rfl)
  | ((with_reducible apply wp_eq); · exact rfl)
  | ((with_reducible apply wp_ne); · exact rfl)
  | ((with_reducible apply wp_pow); · decide)
  | ((with_reducible apply wp_at); · exact rfl
     · exact rfl)
  | ((with_reducible apply wp_atS); · exact rfl
     · exact rfl)
  | ((with_reducible apply wp_isX); · exact rfl)
  | ((with_reducible apply wp_addL); · (show _ ≤ (16777216 : Nat); first | (simp; done) | (simp; omega) | omega))
  | ((with_reducible apply wp_addT); · (show _ ≤ (16777216 : Nat); first | (simp; done) | (simp; omega) | omega))
  | ((with_reducible apply plainP); · first | exact rfl | assumption)
  | ((with_reducible apply asgP); · exact rfl)
  | ((with_reducible apply someP); · exact rfl)
  | ((with_reducible apply ws_app); · exact rfl)
  | ((with_reducible apply appP); · exact rfl
     · (show _ < (16777216 : Nat); first | (simp; done) | (simp; omega) | omega))
  | ((with_reducible apply ws_putAt); · exact rfl
     · exact rfl)
  | ((with_reducible apply ws_forC); · exact rfl)
  | ((with_reducible apply wp_splitF); · exact rfl)
  | ((with_reducible apply wp_joinF); · exact rfl
     · exact rfl
     · decide)
  | ((with_reducible apply ws_ifT); · exact rfl)
  | ((with_reducible apply ws_ifF); · exact rfl)
  | ((with_reducible apply wp_ifT); · exact rfl)
  | ((with_reducible apply wp_ifF); · exact rfl))
local macro_rules | `(tactic| walk_at "dl") => `(tactic| repeat (first | walk_at "dl1" | walk_at "dl2"))
-- DLEND
def prs (xs ys : List Int) : List (List D) := List.zipWith (fun x y => (sdI [x, y]).map .int) xs ys
theorem sd2 (x y : Int) : (sdI [x, y]).length ≤ 2 := by
  show (insI x [y]).length ≤ 2
  unfold insI
  split
  · simp
  · split <;> simp [insI]
theorem zipD_get : ∀ {xs ys : List Int} {i : Nat} {d : D}, (zipD (xs.map .int) (ys.map .int))[i]? = some d → ∃ x y, xs[i]? = some x ∧ ys[i]? = some y ∧ d = .tup [.int x, .int y]
  | [], _, _, _, h => by simp [zipD] at h
  | _ :: _, [], _, _, h => by simp [zipD] at h
  | x :: xs, y :: ys, 0, d, h => ⟨x, y, rfl, rfl, by simpa [zipD] using h.symm⟩
  | x :: xs, y :: ys, i + 1, d, h => by
    obtain ⟨a, b, h1, h2, h3⟩ := zipD_get (xs := xs) (ys := ys) (i := i) (d := d) (by simpa [zipD] using h)
    exact ⟨a, b, by simpa using h1, by simpa using h2, h3⟩
theorem zipD_len : ∀ {xs ys : List D}, xs.length = ys.length → (zipD xs ys).length = xs.length
  | [], [], _ => rfl
  | x :: xs, y :: ys, h => by
    show (zipD xs ys).length + 1 = _
    rw [zipD_len (by simpa using h)]
    rfl
theorem prs_take {xs ys : List Int} {i : Nat} {x y : Int} (h1 : xs[i]? = some x) (h2 : ys[i]? = some y) : (prs xs ys).take (i + 1) = (prs xs ys).take i ++ [(sdI [x, y]).map .int] := by
  rw [List.take_add_one]
  congr 1
  have : (prs xs ys)[i]? = some ((sdI [x, y]).map .int) := by
    unfold prs
    rw [List.getElem?_zipWith, h1, h2]
  rw [this]
  rfl
theorem cpD_size : ∀ (chs : List (List D)) (b : Nat), (∀ ch ∈ chs, ch.length ≤ b) → (cpD [[]] chs).length ≤ b ^ chs.length
  | [], b, _ => by simp [cpD]
  | ch :: r, b, h => by
    have e : ch :: r = [ch] ++ r := rfl
    rw [e, cpD_cons]
    have e1 : cpD [[]] [ch] = ch.map fun c => [c] := by simp [cpD]
    rw [e1, List.length_flatMap]
    have h2 := cpD_size r b fun c hc => h c (List.mem_cons_of_mem _ hc)
    have e3 : (ch.map fun c => [c]).map (fun a => ((cpD [[]] r).map (a ++ ·)).length) = ch.map fun _ => (cpD [[]] r).length := by
      rw [List.map_map]
      apply List.map_congr_left
      intro a _
      simp
    rw [e3]
    have e4 : ∀ l : List D, (l.map fun _ => (cpD [[]] r).length).sum = l.length * (cpD [[]] r).length := fun l => by
      induction l with
      | nil => simp
      | cons a l ih => rw [List.map_cons, List.sum_cons, ih, List.length_cons, Nat.succ_mul, Nat.add_comm]
    rw [e4, List.length_append, List.length_singleton, Nat.add_comm, Nat.pow_succ, Nat.mul_comm]
    exact Nat.mul_le_mul h2 (h ch List.mem_cons_self)
theorem prs_len {xs ys : List Int} (h : xs.length = ys.length) : (prs xs ys).length = xs.length := by
  unfold prs
  rw [List.length_zipWith, ← h, Nat.min_self]
theorem prs_small {xs ys : List Int} : ∀ ch ∈ prs xs ys, ch.length ≤ 2 := fun ch hc => by
  unfold prs at hc
  rw [← List.map_uncurry_zip_eq_zipWith] at hc
  obtain ⟨⟨x, y⟩, _, rfl⟩ := List.mem_map.mp hc
  simpa using sd2 x y
/-- one more place -/
def addT : D → D → D
  | .tup xs, c => .tup (xs ++ [c])
  | d, _ => d
def ext (acc : List (List D)) (ch : List D) : List (List D) := acc.flatMap fun s => ch.map fun c => s ++ [c]
theorem ext_take {acc : List (List D)} {ch : List D} {j : Nat} {s : List D} (h : acc[j]? = some s) : (ext (acc.take (j + 1)) ch).map D.tup = (ext (acc.take j) ch).map .tup ++ ch.map fun c => .tup (s ++ [c]) := by
  unfold ext
  rw [List.take_add_one, h, List.flatMap_append, List.map_append]
  congr 1
  simp
theorem ext_len {acc : List (List D)} {ch : List D} : (ext acc ch).length = acc.length * ch.length := by
  unfold ext
  rw [List.length_flatMap]
  induction acc with
  | nil => simp
  | cons a l ih =>
    rw [List.map_cons, List.sum_cons, ih, List.length_cons, Nat.succ_mul, Nat.add_comm]
    simp
theorem rows_within_ok {xs ys : List Int} (hl : xs.length = ys.length) (h1 : 1 ≤ xs.length) (h3 : xs.length ≤ 3) :
    f_rows_within [.d (.tup (xs.map .int)), .d (.tup (ys.map .int))] = ⟨.ok (.d (.lst ((cpD [[]] (prs xs ys)).map .tup))), [], true⟩ := by
  refine run_eq ?_
  unfold m_rows_within
  walk_at "dl"
  refine ws_forI (fun i e => ∃ v a3 a4 a5 a6, e = [some (.d (.tup (xs.map .int))), some (.d (.tup (ys.map .int))), some v, a3, a4, a5, a6, none] ∧ Lv v ((cpD [[]] ((prs xs ys).take i)).map .tup) ∧ (0 < i → v = .d (.lst ((cpD [[]] ((prs xs ys).take i)).map .tup))) ∧ i ≤ 3) ⟨_, _, _, _, _, rfl, .inl rfl, fun z => absurd z (by decide), by decide⟩ (fun i d e hd hI => ?_) (fun e hI => ?_)
  · obtain ⟨v, a3, a4, a5, a6, rfl, hv, _, _⟩ := hI
    obtain ⟨x, y, hx, hy, rfl⟩ := zipD_get hd
    have hi : i < xs.length := (List.getElem?_eq_some_iff.mp hx).1
    refine ⟨_, rfl, ?_⟩
    walk_at "dl"
    refine wp_varL hv rfl ?_
    walk_at "dl"
    have hacc : (cpD [[]] ((prs xs ys).take i)).length ≤ 8 := by
      have q := cpD_size ((prs xs ys).take i) 2 fun c hc => prs_small c (List.mem_of_mem_take hc)
      have q2 : 2 ^ ((prs xs ys).take i).length ≤ 2 ^ 3 := Nat.pow_le_pow_right (by decide) (by rw [List.length_take]; omega)
      exact Nat.le_trans q q2
    have hsl : ∀ s ∈ cpD [[]] ((prs xs ys).take i), s.length ≤ 3 := fun s hs => by
      have q := (cpD_len _ s hs).1
      rw [List.length_take] at q
      omega
    rw [prs_take hx hy, cpD_snoc]
    generalize (cpD [[]] ((prs xs ys).take i)) = acc at hacc hsl ⊢
    have hs2 := sd2 x y
    refine ws_forI (fun j e => ∃ v5 a6, e = [some (.d (.tup (xs.map .int))), some (.d (.tup (ys.map .int))), some (.d (.lst (acc.map .tup))), some (.d (.int x)), some (.d (.int y)), some v5, a6, none] ∧ Lv v5 ((ext (acc.take j) ((sdI [x, y]).map .int)).map .tup)) ⟨_, _, rfl, .inl rfl⟩ (fun j d e hd hI => ?_) (fun e hI => ?_)
    · obtain ⟨v5, b6, rfl, hv5⟩ := hI
      rw [List.getElem?_map] at hd
      obtain ⟨s, hs, rfl⟩ := Option.map_eq_some_iff.mp hd
      refine ⟨_, rfl, ?_⟩
      walk_at "dl"
      refine wp_varL hv5 rfl ?_
      walk_at "dl"
      refine wp_sortSet (ns := [x, y]) rfl (by simp) ?_
      walk_at "dl"
      refine lc_m (fun c => addT (.tup s) c) (by simp [mx]; omega) (fun c hc => ⟨_, rfl, ?_⟩) ?_
      · walk_at "dl"
        have hsl2 := hsl s (List.mem_of_getElem? hs)
        refine wp_addT (by simp [mx]; omega) ?_
        walk_at "dl"
        exact ⟨rfl, rfl⟩
      · walk_at "dl"
        have q1 : (ext (acc.take j) ((sdI [x, y]).map .int)).length ≤ 16 := by
          rw [ext_len, List.length_map, List.length_take]
          exact Nat.le_trans (Nat.mul_le_mul (Nat.le_trans (Nat.min_le_right _ _) hacc) hs2) (by decide)
        refine wp_addL (by simp [mx]; omega) ?_
        walk_at "dl"
        refine ⟨_, _, rfl, .inl ?_⟩
        rw [ext_take hs]
        rfl
    · obtain ⟨v5, b6, rfl, hv5⟩ := hI
      rw [List.length_map, List.take_length] at hv5
      walk_at "dl"
      refine wp_varL hv5 rfl ?_
      walk_at "dl"
      exact ⟨_, _, _, _, _, rfl, .inr rfl, fun _ => rfl, by omega⟩
  · obtain ⟨v, a3, a4, a5, a6, rfl, _, hv, _⟩ := hI
    rw [zipD_len (by simpa using hl), List.length_map, ← prs_len hl, List.take_length] at hv
    have e := hv (by rw [prs_len hl]; omega)
    subst e
    walk_at "dl"
    exact ⟨rfl, rfl⟩
end K08
set_option maxHeartbeats 4000000
namespace K08
open PySem PySem.Spec L2 DL
-- DLMAC
local macro_rules | `(tactic| walk_at "dl1") => `(tactic| with_reducible first
  | refine ws_seq ?_ | refine seq_n ?_ | refine seq_r ?_ | refine seq_x ?_ | refine ws_asg ?_ | refine ws_ret ?_ | refine ws_if ?_ | refine ws_ift ?_ | refine ws_iff ?_ | refine ws_next ?_
  | refine wp_const ?_ | refine wp_ret ?_ | refine wp_yes ?_ | refine wp_toD ?_ | refine td_d ?_ | refine td_o ?_ | refine wp_ofD ?_ | refine wp_bin2 ?_ | refine wp_un1 ?_ | refine wp_nilA ?_ | refine wp_consA ?_ | refine wp_tup ?_ | refine wp_lst ?_
  | refine wp_tB ?_ | refine tbP ?_ | refine wp_notT ?_ | refine wp_andT ?_ | refine wp_orT ?_ | refine wp_iteM ?_ | refine wp_andE ?_ | refine wp_orE ?_ | refine wp_notE ?_ | refine wp_ift ?_ | refine wp_iff ?_ | refine wp_chain2 ?_
  | refine wp_call ?_ | refine wp_nilV ?_ | refine wp_consV ?_ | refine wp_isi ?_ | refine wp_isi2 ?_ | refine wp_lc ?_ | refine wp_seqI ?_ | refine wp_slO ?_ | refine wp_noPart ?_ | refine wp_part ?_ | refine wp_intO ?_ | refine wp_slT ?_ | refine wp_slL ?_
  | refine wp_neg ?_ | refine wp_sub ?_ | refine wp_add ?_ | refine wp_cmp ?_ | refine wp_eqI ?_ | refine wp_neI ?_ | refine wp_is ?_ | refine wp_isNot ?_ | refine wp_lenT ?_ | refine wp_lenL ?_
  | refine wp_absF ?_ | refine wp_intF ?_ | refine wp_intB ?_ | refine wp_allM ?_ | refine wp_anyM ?_ | refine wp_tupT ?_ | refine wp_tupL ?_ | refine wp_listT ?_ | refine wp_listL ?_ | refine wp_max ?_ | refine wp_min ?_
  | refine ws_asgT ?_ | refine ws_par ?_ | refine ws_par3 ?_ | refine ws_parO ?_ | refine ws_retN ?_ | refine ws_drop ?_ | refine ws_brk ?_ | refine ws_cont ?_ | refine ws_raise ?_ | refine ws_for ?_ | refine ws_for0 ?_ | refine forP_n ?_ | refine forP_r ?_ | refine lp_n ?_ | refine lp_c ?_ | refine lp_b ?_ | refine lp_r ?_ | refine lp_x ?_ | refine ws_while ?_
  | refine itemsT ?_ | refine itemsL ?_ | refine parP ?_ | refine par3P ?_ | refine ws_put ?_ | refine wp_zipL ?_ | refine wp_join ?_ | refine joinP ?_ | refine wp_split ?_ | refine splitP ?_
  | refine wp_try ?_ | refine tryV_d ?_ | refine tryV_o ?_ | refine wp_bnd ?_ | refine ws_bnd ?_)
local macro_rules | `(tactic| walk_at "dl2") => `(tactic| first
  | ((with_reducible apply wp_var); · exact rfl)
  | ((with_reducible apply wp_varO); · exact rfl)
  | ((with_reducible apply wp_take); · exact rfl)
  | ((with_reducible apply wp_takeO); · exact rfl)
  | ((with_reducible apply lenP); · (show _ ≤ (16777216 : Nat); simp; done))
  | ((with_reducible apply wp_lenD); · exact rfl)
  | ((with_reducible apply wp_lenV); · exact rfl)
  | ((with_reducible apply wp_ixV); · exact rfl)
  | ((with_reducible apply wp_atD); · exact rfl)
  | ((with_reducible apply wp_consL); · exact rfl)
  | ((with_reducible apply wp_in); · exact rfl
     · exact rfl)
  | ((with_reducible apply fin_d); · exact rfl)
  | ((with_reducible apply fin_o); · exact rfl)
  | ((with_reducible apply fin_n); · exact rfl)
  | ((with_reducible apply fin_x); · exact rfl)
  | ((with_reducible apply wp_zip); · exact rfl
     · exact rfl)
  | ((with_reducible apply wp_enum); · exact rfl)
  | ((with_reducible apply wp_eq); · exact rfl)
  | ((with_reducible apply wp_ne); · exact rfl)
  | ((with_reducible apply wp_pow); · decide)
  | ((with_reducible apply wp_at); · exact rfl
     · exact rfl)
  | ((with_reducible apply wp_atS); · exact rfl
     · exact rfl)
  | ((with_reducible apply wp_isX); · exact rfl)
  | ((with_reducible apply wp_addL); · (show _ ≤ (16777216 : Nat); first | (simp; done) | (simp; omega) | omega))
  | ((with_reducible apply wp_addT); · (show _ ≤ (16777216 : Nat); first | (simp; done) | (simp; omega) | omega))
  | ((with_reducible apply plainP); · first | exact rfl | assumption)
  | ((with_reducible apply asgP); · exact rfl)
  | ((with_reducible apply someP); · exact rfl)
  | ((with_reducible apply ws_app); · exact rfl)
  | ((with_reducible apply appP); · exact rfl
     · (show _ < (16777216 : Nat); first | (simp; done) | (simp; omega) | omega))
  | ((with_reducible apply ws_putAt); · exact rfl
     · exact rfl)
  | ((with_reducible apply ws_forC); · exact rfl)
  | ((with_reducible apply wp_splitF); · exact rfl)
  | ((with_reducible apply wp_joinF); · exact rfl
     · exact rfl
     · decide)
  | ((with_reducible apply ws_ifT); · exact rfl)
  | ((with_reducible apply ws_ifF); · exact rfl)
  | ((with_reducible apply wp_ifT); · exact rfl)
  | ((with_reducible apply wp_ifF); · exact rfl))
local macro_rules | `(tactic| walk_at "dl") => `(tactic| repeat (first | walk_at "dl1" | walk_at "dl2"))
-- DLEND
def rowT (xs : List Int) : D := .tup (xs.map .int)
def tabT (L : List (List Int)) : D := .tup (L.map rowT)
def chs (L H : List (List Int)) : List (List D) := List.zipWith (fun x y => (cpD [[]] (prs x y)).map .tup) L H
theorem zipD_getT : ∀ {xs ys : List (List Int)} {i : Nat} {d : D}, (zipD (xs.map rowT) (ys.map rowT))[i]? = some d → ∃ x y, xs[i]? = some x ∧ ys[i]? = some y ∧ d = .tup [rowT x, rowT y]
  | [], _, _, _, h => by simp [zipD] at h
  | _ :: _, [], _, _, h => by simp [zipD] at h
  | x :: xs, y :: ys, 0, d, h => ⟨x, y, rfl, rfl, by simpa [zipD] using h.symm⟩
  | x :: xs, y :: ys, i + 1, d, h => by
    obtain ⟨a, b, h1, h2, h3⟩ := zipD_getT (xs := xs) (ys := ys) (i := i) (d := d) (by simpa [zipD] using h)
    exact ⟨a, b, by simpa using h1, by simpa using h2, h3⟩
theorem chs_take {L H : List (List Int)} {i : Nat} {x y : List Int} (h1 : L[i]? = some x) (h2 : H[i]? = some y) : (chs L H).take (i + 1) = (chs L H).take i ++ [(cpD [[]] (prs x y)).map .tup] := by
  rw [List.take_add_one]
  congr 1
  have : (chs L H)[i]? = some ((cpD [[]] (prs x y)).map .tup) := by
    unfold chs
    rw [List.getElem?_zipWith, h1, h2]
  rw [this]
  rfl
theorem chs_len {L H : List (List Int)} (h : L.length = H.length) : (chs L H).length = L.length := by
  unfold chs
  rw [List.length_zipWith, ← h, Nat.min_self]
structure Sq (n : Nat) (L H : List (List Int)) : Prop where
  n1 : 1 ≤ n
  n3 : n ≤ 3
  l : L.length = n
  h : H.length = n
  lr : ∀ r ∈ L, r.length = n
  hr : ∀ r ∈ H, r.length = n
theorem prs_size {x y : List Int} {n : Nat} (h1 : x.length = n) (h2 : y.length = n) (h3 : n ≤ 3) : (cpD [[]] (prs x y)).length ≤ 8 := by
  have q := cpD_size (prs x y) 2 prs_small
  rw [prs_len (by omega), h1] at q
  exact Nat.le_trans q (show 2 ^ n ≤ 2 ^ 3 from Nat.pow_le_pow_right (by decide) h3)
theorem chs_small {n : Nat} {L H : List (List Int)} (S : Sq n L H) : ∀ ch ∈ chs L H, ch.length ≤ 8 := fun ch hc => by
  unfold chs at hc
  rw [← List.map_uncurry_zip_eq_zipWith] at hc
  obtain ⟨⟨x, y⟩, hm, rfl⟩ := List.mem_map.mp hc
  have := List.of_mem_zip hm
  simpa using prs_size (S.lr x this.1) (S.hr y this.2) S.n3
def firstBad (g : D → Bool) : List D → D
  | [] => .non
  | T :: r => if g T then firstBad g r else T
theorem bad_table_ok {n : Nat} {L H : List (List Int)} (S : Sq n L H) (g : D → Bool) (hg : ∀ T ∈ (cpD [[]] (chs L H)).map D.tup, f_is_single_value [.d T] = ⟨.ok (.d (.bl (g T))), [], true⟩) :
    f_bad_table [.d (tabT L), .d (tabT H)] = ⟨.ok (.d (firstBad g ((cpD [[]] (chs L H)).map .tup))), [], true⟩ := by
  have S1 := S.n1; have S2 := S.n3; have S3 := S.l; have S4 := S.h
  refine run_eq ?_
  unfold m_bad_table tabT
  walk_at "dl"
  refine ws_forI (fun i e => ∃ v a3 a4 a5 a6, e = [some (.d (.tup (L.map rowT))), some (.d (.tup (H.map rowT))), some v, a3, a4, a5, a6, none] ∧ Lv v ((cpD [[]] ((chs L H).take i)).map .tup) ∧ i ≤ 3) ⟨_, _, _, _, _, rfl, .inl rfl, by decide⟩ (fun i d e hd hI => ?_) (fun e hI => ?_)
  · obtain ⟨v, a3, a4, a5, a6, rfl, hv, _⟩ := hI
    obtain ⟨x, y, hx, hy, rfl⟩ := zipD_getT hd
    have hi : i < L.length := (List.getElem?_eq_some_iff.mp hx).1
    have lx := S.lr x (List.mem_of_getElem? hx)
    have ly := S.hr y (List.mem_of_getElem? hy)
    refine ⟨_, rfl, ?_⟩
    walk_at "dl"
    refine wp_varL hv rfl ?_
    walk_at "dl"
    have hacc : (cpD [[]] ((chs L H).take i)).length ≤ 512 := by
      have q := cpD_size ((chs L H).take i) 8 fun c hc => chs_small S c (List.mem_of_mem_take hc)
      have q2 : 8 ^ ((chs L H).take i).length ≤ 8 ^ 3 := Nat.pow_le_pow_right (by decide) (by rw [List.length_take]; omega)
      exact Nat.le_trans q q2
    have hsl : ∀ s ∈ cpD [[]] ((chs L H).take i), s.length ≤ 3 := fun s hs => by
      have q := (cpD_len _ s hs).1
      rw [List.length_take] at q
      omega
    rw [chs_take hx hy, cpD_snoc]
    generalize (cpD [[]] ((chs L H).take i)) = acc at hacc hsl ⊢
    have hs2 : ((cpD [[]] (prs x y)).map D.tup).length ≤ 8 := by rw [List.length_map]; exact prs_size lx ly S.n3
    have hc := rows_within_ok (xs := x) (ys := y) (by omega) (by omega) (by omega)
    generalize (cpD [[]] (prs x y)).map D.tup = ch at hs2 hc ⊢
    refine ws_forI (fun j e => ∃ v5 a6, e = [some (.d (.tup (L.map rowT))), some (.d (.tup (H.map rowT))), some (.d (.lst (acc.map .tup))), some (.d (rowT x)), some (.d (rowT y)), some v5, a6, none] ∧ Lv v5 ((ext (acc.take j) ch).map .tup)) ⟨_, _, rfl, .inl rfl⟩ (fun j d e hd hI => ?_) (fun e hI => ?_)
    · obtain ⟨v5, b6, rfl, hv5⟩ := hI
      rw [List.getElem?_map] at hd
      obtain ⟨s, hs, rfl⟩ := Option.map_eq_some_iff.mp hd
      refine ⟨_, rfl, ?_⟩
      walk_at "dl"
      refine wp_varL hv5 rfl ?_
      walk_at "dl"
      refine cp2 hc ?_
      walk_at "dl"
      refine lc_m (fun c => addT (.tup s) c) (by simp [mx]; omega) (fun c hc => ⟨_, rfl, ?_⟩) ?_
      · walk_at "dl"
        have hsl2 := hsl s (List.mem_of_getElem? hs)
        refine wp_addT (by simp [mx]; omega) ?_
        walk_at "dl"
        exact ⟨rfl, rfl⟩
      · walk_at "dl"
        have q1 : (ext (acc.take j) ch).length ≤ 4096 := by
          rw [ext_len, List.length_take]
          exact Nat.le_trans (Nat.mul_le_mul (Nat.le_trans (Nat.min_le_right _ _) hacc) hs2) (by decide)
        refine wp_addL (by simp [mx]; omega) ?_
        walk_at "dl"
        refine ⟨_, _, rfl, .inl ?_⟩
        rw [ext_take hs]
        rfl
    · obtain ⟨v5, b6, rfl, hv5⟩ := hI
      rw [List.length_map, List.take_length] at hv5
      walk_at "dl"
      refine wp_varL hv5 rfl ?_
      walk_at "dl"
      exact ⟨_, _, _, _, _, rfl, .inr rfl, by omega⟩
  · obtain ⟨v, a3, a4, a5, a6, rfl, hv, _⟩ := hI
    rw [zipD_len (by simp; omega), List.length_map, ← chs_len (L := L) (H := H) (by omega), List.take_length] at hv
    walk_at "dl"
    refine wp_varL hv rfl ?_
    walk_at "dl"
    generalize (cpD [[]] (chs L H)).map D.tup = all at hg ⊢
    have go : ∀ (r : List D) (a6 : Option SV), (∀ T ∈ r, T ∈ all) → WS (forL (nameT 6) (ifS (notT (DL.tB (toD (callM f_is_single_value (consV (varE 6) nilV))))) (retS (takeO 6)) nextS) r) [some (.d (.tup (L.map rowT))), some (.d (.tup (H.map rowT))), some (.d (.lst all)), a3, a4, a5, a6, none]
        (fun f e1 => SeqP (retS (ofD (constE D.non))) f e1 (FinP [SV.d (.tup (L.map rowT)), SV.d (.tup (H.map rowT))] fun w o => w = .ok (.d (firstBad g r)) ∧ o = [])) := fun r => by
      induction r with
      | nil =>
        intro a6 _
        walk_at "dl"
        exact ⟨rfl, rfl⟩
      | cons T r ih =>
        intro a6 hT
        refine ws_forC rfl ?_
        walk_at "dl"
        refine cp1 (hg T (hT T List.mem_cons_self)) ?_
        walk_at "dl"
        unfold firstBad
        cases g T with
        | true =>
          walk_at "dl"
          exact ih _ fun U hU => hT U (List.mem_cons_of_mem _ hU)
        | false =>
          walk_at "dl"
          exact ⟨rfl, rfl⟩
    exact go all a6 fun _ h => h
end K08
set_option maxHeartbeats 4000000
namespace K08
open PySem PySem.Spec L2 DL
-- DLMAC
local macro_rules | `(tactic| walk_at "dl1") => `(tactic| with_reducible first
  | refine ws_seq ?_ | refine seq_n ?_ | refine seq_r ?_ | refine seq_x ?_ | refine ws_asg ?_ | refine ws_ret ?_ | refine ws_if ?_ | refine ws_ift ?_ | refine ws_iff ?_ | refine ws_next ?_
  | refine wp_const ?_ | refine wp_ret ?_ | refine wp_yes ?_ | refine wp_toD ?_ | refine td_d ?_ | refine td_o ?_ | refine wp_ofD ?_ | refine wp_bin2 ?_ | refine wp_un1 ?_ | refine wp_nilA ?_ | refine wp_consA ?_ | refine wp_tup ?_ | refine wp_lst ?_
  | refine wp_tB ?_ | refine tbP ?_ | refine wp_notT ?_ | refine wp_andT ?_ | refine wp_orT ?_ | refine wp_iteM ?_ | refine wp_andE ?_ | refine wp_orE ?_ | refine wp_notE ?_ | refine wp_ift ?_ | refine wp_iff ?_ | refine wp_chain2 ?_
  | refine wp_call ?_ | refine wp_nilV ?_ | refine wp_consV ?_ | refine wp_isi ?_ | refine wp_isi2 ?_ | refine wp_lc ?_ | refine wp_seqI ?_ | refine wp_slO ?_ | refine wp_noPart ?_ | refine wp_part ?_ | refine wp_intO ?_ | refine wp_slT ?_ | refine wp_slL ?_
  | refine wp_neg ?_ | refine wp_sub ?_ | refine wp_add ?_ | refine wp_cmp ?_ | refine wp_eqI ?_ | refine wp_neI ?_ | refine wp_is ?_ | refine wp_isNot ?_ | refine wp_lenT ?_ | refine wp_lenL ?_
  | refine wp_absF ?_ | refine wp_intF ?_ | refine wp_intB ?_ | refine wp_allM ?_ | refine wp_anyM ?_ | refine wp_tupT ?_ | refine wp_tupL ?_ | refine wp_listT ?_ | refine wp_listL ?_ | refine wp_max ?_ | refine wp_min ?_
  | refine ws_asgT ?_ | refine ws_par ?_ | refine ws_par3 ?_ | refine ws_parO ?_ | refine ws_retN ?_ | refine ws_drop ?_ | refine ws_brk ?_ | refine ws_cont ?_ | refine ws_raise ?_ | refine ws_for ?_ | refine ws_for0 ?_ | refine forP_n ?_ | refine forP_r ?_ | refine lp_n ?_ | refine lp_c ?_ | refine lp_b ?_ | refine lp_r ?_ | refine lp_x ?_ | refine ws_while ?_
  | refine itemsT ?_ | refine itemsL ?_ | refine parP ?_ | refine par3P ?_ | refine ws_put ?_ | refine wp_zipL ?_ | refine wp_join ?_ | refine joinP ?_ | refine wp_split ?_ | refine splitP ?_
  | refine wp_try ?_ | refine tryV_d ?_ | refine tryV_o ?_ | refine wp_bnd ?_ | refine ws_bnd ?_)
local macro_rules | `(tactic| walk_at "dl2") => `(tactic| first
  | ((with_reducible apply wp_var); · exact rfl)
  | ((with_reducible apply wp_varO); · exact rfl)
  | ((with_reducible apply wp_take); · exact rfl)
  | ((with_reducible apply wp_takeO); · exact rfl)
  | ((with_reducible apply lenP); · (show _ ≤ (16777216 : Nat); simp; done))
  | ((with_reducible apply wp_lenD); · exact rfl)
  | ((with_reducible apply wp_lenV); · exact rfl)
  | ((with_reducible apply wp_ixV); · exact rfl)
  | ((with_reducible apply wp_atD); · exact rfl)
  | ((with_reducible apply wp_consL); · exact rfl)
  | ((with_reducible apply wp_in); · exact rfl
     · exact rfl)
  | ((with_reducible apply fin_d); · exact rfl)
  | ((with_reducible apply fin_o); · exact rfl)
  | ((with_reducible apply fin_n); · exact rfl)
  | ((with_reducible apply fin_x); · exact rfl)
  | ((with_reducible apply wp_zip); · exact rfl
     · exact rfl)
  | ((with_reducible apply wp_enum); · exact rfl)
  | ((with_reducible apply wp_eq); · exact rfl)
  | ((with_reducible apply wp_ne); · exact rfl)
  | ((with_reducible apply wp_pow); · decide)
  | ((with_reducible apply wp_at); · exact rfl
     · exact rfl)
  | ((with_reducible apply wp_atS); · exact rfl
     · exact rfl)
  | ((with_reducible apply wp_isX); · exact rfl)
  | ((with_reducible apply wp_addL); · (show _ ≤ (16777216 : Nat); first | (simp; done) | (simp; omega) | omega))
  | ((with_reducible apply wp_addT); · (show _ ≤ (16777216 : Nat); first | (simp; done) | (simp; omega) | omega))
  | ((with_reducible apply plainP); · first | exact rfl | assumption)
  | ((with_reducible apply asgP); · exact rfl)
  | ((with_reducible apply someP); · exact rfl)
  | ((with_reducible apply ws_app); · exact rfl)
  | ((with_reducible apply appP); · exact rfl
     · (show _ < (16777216 : Nat); first | (simp; done) | (simp; omega) | omega))
  | ((with_reducible apply ws_putAt); · exact rfl
     · exact rfl)
  | ((with_reducible apply ws_forC); · exact rfl)
  | ((with_reducible apply wp_splitF); · exact rfl)
  | ((with_reducible apply wp_joinF); · exact rfl
     · exact rfl
     · decide)
  | ((with_reducible apply ws_ifT); · exact rfl)
  | ((with_reducible apply ws_ifF); · exact rfl)
  | ((with_reducible apply wp_ifT); · exact rfl)
  | ((with_reducible apply wp_ifF); · exact rfl))
local macro_rules | `(tactic| walk_at "dl") => `(tactic| repeat (first | walk_at "dl1" | walk_at "dl2"))
-- DLEND
/-! the law's list of ends -/
def allPrs (L H : List (List Int)) : List (List D) := (List.zipWith prs L H).flatten
theorem at_row {L : List (List Int)} {i : Nat} {x : List Int} (h : L[i]? = some x) : atI (L.map rowT) (i : Nat) = some (rowT x) := by
  have hi : i < L.length := (List.getElem?_eq_some_iff.mp h).1
  obtain ⟨d, h1, _, h3⟩ := atI_pos (xs := L.map rowT) (i := (i : Int)) (by omega) (by rw [List.length_map]; omega)
  rw [h1]
  rw [Int.toNat_natCast, List.getElem?_map, h] at h3
  exact h3.symm ▸ rfl
theorem at_int {x : List Int} {i : Nat} {v : Int} (h : x[i]? = some v) : atI (x.map D.int) (i : Nat) = some (.int v) := by
  have hi : i < x.length := (List.getElem?_eq_some_iff.mp h).1
  obtain ⟨d, h1, _, h3⟩ := atI_pos (xs := x.map D.int) (i := (i : Int)) (by omega) (by rw [List.length_map]; omega)
  rw [h1]
  rw [Int.toNat_natCast, List.getElem?_map, h] at h3
  exact h3.symm ▸ rfl
theorem range_get {n i : Nat} {d : D} (h : ((List.range n).map fun i => D.int (0 + (i : Nat)))[i]? = some d) : i < n ∧ d = .int (i : Nat) := by
  have hi : i < n := by
    have := (List.getElem?_eq_some_iff.mp h).1
    simpa using this
  rw [List.getElem?_map, List.getElem?_range hi] at h
  refine ⟨hi, ?_⟩
  have := Option.some.inj h
  rw [← this]
  show D.int (0 + (i : Int)) = _
  rw [Int.zero_add]
theorem cut_nat (xs : List D) (a b : Nat) (h : a + b ≤ xs.length) : cutD xs (some (a : Int)) (some ((a : Int) + (b : Int))) = (xs.drop a).take b := by
  have e : (a : Int) + (b : Int) = ((a + b : Nat) : Int) := by omega
  unfold cutD
  rw [e, HT.sIx_nat, HT.sIx_nat]
  have e1 : min a xs.length = a := Nat.min_eq_left (by omega)
  have e2 : min (a + b) xs.length = a + b := Nat.min_eq_left h
  simp only [e1, e2]
  congr 1
  omega
theorem chunk_get (n : Nat) : ∀ (k : Nat) (s : List D) , chunk n k s = (List.range k).map fun i => .tup ((s.drop (i * n)).take n)
  | 0, s => rfl
  | k + 1, s => by
    rw [chunk, chunk_get n k, List.range_succ_eq_map, List.map_cons, List.map_map]
    congr 1
    · simp
    · apply List.map_congr_left
      intro i _
      show D.tup _ = D.tup _
      rw [List.drop_drop]
      congr 3
      show n + i * n = (i + 1) * n
      rw [Nat.succ_mul, Nat.add_comm]
theorem ends_ok {n : Nat} {L H : List (List Int)} (S : Sq n L H) :
    f__law_ends [.d (tabT L), .d (tabT H)] = ⟨.ok (.own 0 ((cpD [[]] (allPrs L H)).map fun s => .tup (chunk n n s))), [], true⟩ := by
  have S1 := S.n1; have S2 := S.n3; have S3 := S.l; have S4 := S.h
  have hz : (List.zipWith prs L H).length = n := by rw [List.length_zipWith, S3, S4, Nat.min_self]
  have hrow : ∀ {i : Nat} {x y : List Int}, L[i]? = some x → H[i]? = some y → (List.zipWith prs L H)[i]? = some (prs x y) := fun {i x y} h1 h2 => by
    rw [List.getElem?_zipWith, h1, h2]
  have hel : ∀ ps ∈ List.zipWith prs L H, ps.length = n ∧ ∀ c ∈ ps, c.length ≤ 2 := fun ps hp => by
    rw [← List.map_uncurry_zip_eq_zipWith] at hp
    obtain ⟨⟨x, y⟩, hm, rfl⟩ := List.mem_map.mp hp
    have := List.of_mem_zip hm
    have l1 : x.length = n := S.lr x this.1
    have l2 : y.length = n := S.hr y this.2
    exact ⟨(prs_len (xs := x) (ys := y) (by omega)).trans l1, prs_small⟩
  have flen : ∀ i, (((List.zipWith prs L H).take i).flatten).length ≤ n * i ∧ ∀ c ∈ ((List.zipWith prs L H).take i).flatten, c.length ≤ 2 := fun i => by
    constructor
    · induction i with
      | zero => simp
      | succ i ih =>
        rw [List.take_add_one, List.flatten_append, List.length_append, Nat.mul_succ]
        refine Nat.add_le_add ih ?_
        cases q : (List.zipWith prs L H)[i]? with
        | none => simp
        | some ps => simpa using Nat.le_of_eq (hel ps (List.mem_of_getElem? q)).1
    · intro c hc
      obtain ⟨ps, h1, h2⟩ := List.mem_flatten.mp hc
      exact (hel ps (List.mem_of_mem_take h1)).2 c h2
  refine run_eq ?_
  unfold m__law_ends tabT
  walk_at "dl"
  have en : D.int ((L.map rowT).length : Nat) = .int (n : Nat) := by rw [List.length_map, S3]
  rw [en]
  refine wp_range (by omega) ?_
  walk_at "dl"
  rw [Int.toNat_natCast]
  refine ws_forI (fun i e => ∃ v a4 a5 a6 a7 a8, e = [some (.d (.tup (L.map rowT))), some (.d (.tup (H.map rowT))), some (.d (.int (n : Nat))), some v, a4, a5, a6, a7, a8, none] ∧ Lv v ((cpD [[]] (((List.zipWith prs L H).take i).flatten)).map .tup) ∧ dOnly a4 = a4) ⟨_, _, _, _, _, _, rfl, .inr rfl, rfl⟩ (fun i d e hd hI => ?_) (fun e hI => ?_)
  · obtain ⟨v, a4, a5, a6, a7, a8, rfl, hv, _⟩ := hI
    obtain ⟨hi, rfl⟩ := range_get hd
    obtain ⟨x, hx⟩ : ∃ x, L[i]? = some x := ⟨L[i], List.getElem?_eq_getElem (by omega)⟩
    obtain ⟨y, hy⟩ : ∃ y, H[i]? = some y := ⟨H[i], List.getElem?_eq_getElem (by omega)⟩
    have lx := S.lr x (List.mem_of_getElem? hx)
    have ly := S.hr y (List.mem_of_getElem? hy)
    have eF : ((List.zipWith prs L H).take (i + 1)).flatten = ((List.zipWith prs L H).take i).flatten ++ prs x y := by
      rw [List.take_add_one, hrow hx hy, List.flatten_append]
      simp
    rw [eF]
    obtain ⟨fl1, fl2⟩ := flen i
    have fl3 : ((List.zipWith prs L H).take i).flatten.length ≤ 6 := by
      have : n * i ≤ 3 * 2 := Nat.mul_le_mul S2 (by omega)
      omega
    generalize ((List.zipWith prs L H).take i).flatten = Z at hv fl2 fl3 ⊢
    clear fl1 eF
    refine ⟨_, rfl, ?_⟩
    walk_at "dl"
    refine wp_range (by omega) ?_
    walk_at "dl"
    rw [Int.toNat_natCast]
    refine ws_forI (fun j e => ∃ v a5 a6 a7 a8, e = [some (.d (.tup (L.map rowT))), some (.d (.tup (H.map rowT))), some (.d (.int (n : Nat))), some v, some (.d (.int (i : Nat))), a5, a6, a7, a8, none] ∧ Lv v ((cpD [[]] (Z ++ (prs x y).take j)).map .tup)) ⟨_, _, _, _, _, rfl, by simpa using hv⟩ (fun j d e hd hI => ?_) (fun e hI => ?_)
    · obtain ⟨v, a5, a6, a7, a8, rfl, hv⟩ := hI
      obtain ⟨hj, rfl⟩ := range_get hd
      obtain ⟨xv, hxv⟩ : ∃ v, x[j]? = some v := ⟨x[j], List.getElem?_eq_getElem (by omega)⟩
      obtain ⟨yv, hyv⟩ : ∃ v, y[j]? = some v := ⟨y[j], List.getElem?_eq_getElem (by omega)⟩
      rw [prs_take hxv hyv, ← List.append_assoc, cpD_snoc]
      have hs2 : ((sdI [xv, yv]).map D.int).length ≤ 2 := by rw [List.length_map]; exact sd2 xv yv
      have hacc : (cpD [[]] (Z ++ (prs x y).take j)).length ≤ 512 := by
        have q := cpD_size (Z ++ (prs x y).take j) 2 fun c hc => by
          rcases List.mem_append.mp hc with z | z
          · exact fl2 c z
          · exact prs_small c (List.mem_of_mem_take z)
        have q2 : 2 ^ (Z ++ (prs x y).take j).length ≤ 2 ^ 9 := Nat.pow_le_pow_right (by decide) (by rw [List.length_append, List.length_take]; omega)
        exact Nat.le_trans q q2
      have hsl : ∀ s ∈ cpD [[]] (Z ++ (prs x y).take j), s.length ≤ 9 := fun s hs => by
        have q := (cpD_len _ s hs).1
        rw [List.length_append, List.length_take] at q
        omega
      generalize (cpD [[]] (Z ++ (prs x y).take j)) = acc at hv hacc hsl ⊢
      refine ⟨_, rfl, ?_⟩
      walk_at "dl"
      refine wp_at rfl (at_row hx) ?_
      walk_at "dl"
      refine wp_at rfl (at_int hxv) ?_
      walk_at "dl"
      refine wp_at rfl (at_row hy) ?_
      walk_at "dl"
      refine wp_at rfl (at_int hyv) ?_
      walk_at "dl"
      refine wp_sortSet (ns := [xv, yv]) rfl (by simp) ?_
      walk_at "dl"
      refine wp_varL hv rfl ?_
      walk_at "dl"
      generalize (sdI [xv, yv]).map D.int = ch at hs2 ⊢
      refine ws_forI (fun k e => ∃ v6 v7 a8, e = [some (.d (.tup (L.map rowT))), some (.d (.tup (H.map rowT))), some (.d (.int (n : Nat))), some (.d (.lst (acc.map .tup))), some (.d (.int (i : Nat))), some (.d (.int (j : Nat))), some v6, some v7, a8, none] ∧ Lv v6 ch ∧ Lv v7 ((ext (acc.take k) ch).map .tup)) ⟨_, _, _, rfl, .inl rfl, .inl rfl⟩ (fun k d e hd hI => ?_) (fun e hI => ?_)
      · obtain ⟨v6, v7, b8, rfl, hv6, hv7⟩ := hI
        rw [List.getElem?_map] at hd
        obtain ⟨s, hs, rfl⟩ := Option.map_eq_some_iff.mp hd
        refine ⟨_, rfl, ?_⟩
        walk_at "dl"
        refine wp_varL hv7 rfl ?_
        walk_at "dl"
        refine wp_varL hv6 rfl ?_
        walk_at "dl"
        refine lc_m (fun c => addT (.tup s) c) (by simp [mx]; omega) (fun c hc => ⟨_, rfl, ?_⟩) ?_
        · walk_at "dl"
          have hsl2 := hsl s (List.mem_of_getElem? hs)
          refine wp_addT (by simp [mx]; omega) ?_
          walk_at "dl"
          exact ⟨rfl, rfl⟩
        · walk_at "dl"
          have q1 : (ext (acc.take k) ch).length ≤ 1024 := by
            rw [ext_len, List.length_take]
            exact Nat.le_trans (Nat.mul_le_mul (Nat.le_trans (Nat.min_le_right _ _) hacc) hs2) (by decide)
          refine wp_addL (by simp [mx]; omega) ?_
          walk_at "dl"
          refine ⟨_, _, _, rfl, .inr rfl, .inl ?_⟩
          rw [ext_take hs]
          rfl
      · obtain ⟨v6, v7, b8, rfl, hv6, hv7⟩ := hI
        rw [List.length_map, List.take_length] at hv7
        walk_at "dl"
        refine wp_varL hv7 rfl ?_
        walk_at "dl"
        exact ⟨_, _, _, _, _, rfl, .inr rfl⟩
    · obtain ⟨v, a5, a6, a7, a8, rfl, hv⟩ := hI
      rw [List.length_map, List.length_range, List.take_of_length_le (by rw [prs_len (by omega)]; omega)] at hv
      walk_at "dl"
      exact ⟨_, _, _, _, _, _, rfl, hv, rfl⟩
  · obtain ⟨v, a4, a5, a6, a7, a8, rfl, hv, h4⟩ := hI
    rw [List.length_map, List.length_range, List.take_of_length_le (by omega)] at hv
    walk_at "dl"
    refine wp_varL hv rfl ?_
    walk_at "dl"
    have fl := flen n
    have elen : (List.zipWith prs L H).flatten.length = n * n := by
      have : ∀ R : List (List (List D)), (∀ ps ∈ R, ps.length = n) → R.flatten.length = R.length * n := fun R => by
        induction R with
        | nil => simp
        | cons a r ih =>
          intro h
          rw [List.flatten_cons, List.length_append, h a List.mem_cons_self, ih fun q hq => h q (List.mem_cons_of_mem _ hq), List.length_cons, Nat.succ_mul, Nat.add_comm]
      rw [this _ fun ps hp => (hel ps hp).1, hz]
    have nn : n * n ≤ 9 := Nat.mul_le_mul S2 S2
    have hacc : (cpD [[]] (List.zipWith prs L H).flatten).length ≤ 512 := by
      have q := cpD_size (List.zipWith prs L H).flatten 2 fun c hc => by
        obtain ⟨ps, h1, h2⟩ := List.mem_flatten.mp hc
        exact (hel ps h1).2 c h2
      have q2 : 2 ^ (List.zipWith prs L H).flatten.length ≤ 2 ^ 9 := Nat.pow_le_pow_right (by decide) (by rw [elen]; exact nn)
      exact Nat.le_trans q q2
    have hsl : ∀ s ∈ cpD [[]] (List.zipWith prs L H).flatten, s.length = n * n := fun s hs => by
      rw [(cpD_len _ s hs).1, elen]
    show LC _ _ _ _ _ _ (fun v e1 => FinP _ (fun w o => w = Except.ok (SV.own 0 (List.map (fun s => D.tup (chunk n n s)) (cpD [[]] (List.zipWith prs L H).flatten))) ∧ o = []) (Fl.ret v) e1) _
    generalize cpD [[]] (List.zipWith prs L H).flatten = acc at hacc hsl ⊢
    refine lc_m (fun d => match d with
      | .tup s => .tup (chunk n n s)
      | d => d) (by simp [mx]; omega) (fun d hd => ?_) ?_
    · obtain ⟨s, hs, rfl⟩ := List.mem_map.mp hd
      have ls := hsl s hs
      refine ⟨_, rfl, ?_⟩
      walk_at "dl"
      refine wp_range (by omega) ?_
      walk_at "dl"
      rw [Int.toNat_natCast]
      refine lc_m (fun d => match d with
        | .int i => .tup ((s.drop (i.toNat * n)).take n)
        | d => d) (by simp [mx]; omega) (fun d hd => ?_) ?_
      · obtain ⟨i, hi, rfl⟩ := List.mem_map.mp hd
        have hi := List.mem_range.mp hi
        rw [Int.zero_add]
        refine ⟨_, rfl, ?_⟩
        have hm : mulB (i : Nat) (n : Nat) = true := mulB_small (by omega) (by omega)
        walk_at "dl"
        refine wp_mul hm ?_
        walk_at "dl"
        refine wp_mul hm ?_
        walk_at "dl"
        refine ⟨?_, rfl⟩
        have e1 : (i : Int) * (n : Int) = ((i * n : Nat) : Int) := by simp
        have hb : i * n + n ≤ n * n := by
          have : (i + 1) * n ≤ n * n := Nat.mul_le_mul_right n hi
          rw [Nat.succ_mul] at this
          exact this
        rw [e1, cut_nat s (i * n) n (by omega)]
        rfl
      · walk_at "dl"
        refine ⟨?_, ?_⟩
        · show D.tup _ = D.tup (chunk n n s)
          rw [chunk_get, List.map_map]
          congr 1
          apply List.map_congr_left
          intro i _
          show D.tup ((s.drop (((0 : Int) + (i : Int)).toNat * n)).take n) = _
          rw [Int.zero_add, Int.toNat_natCast]
        · show ([_, _, _, _, dOnly a4, _, _, _, _, _] : Ev) = [_, _, _, _, a4, _, _, _, _, _]
          rw [h4]
    · walk_at "dl"
      refine ⟨?_, rfl⟩
      rw [List.map_map]
      rfl
end K08
set_option maxHeartbeats 4000000
namespace K08
open PySem PySem.Spec L2 DL
-- DLMAC
local macro_rules | `(tactic| walk_at "dl1") => `(tactic| with_reducible first
  | refine ws_seq ?_ | refine seq_n ?_ | refine seq_r ?_ | refine seq_x ?_ | refine ws_asg ?_ | refine ws_ret ?_ | refine ws_if ?_ | refine ws_ift ?_ | refine ws_iff ?_ | refine ws_next ?_
  | refine wp_const ?_ | refine wp_ret ?_ | refine wp_yes ?_ | refine wp_toD ?_ | refine td_d ?_ | refine td_o ?_ | refine wp_ofD ?_ | refine wp_bin2 ?_ | refine wp_un1 ?_ | refine wp_nilA ?_ | refine wp_consA ?_ | refine wp_tup ?_ | refine wp_lst ?_
  | refine wp_tB ?_ | refine tbP ?_ | refine wp_notT ?_ | refine wp_andT ?_ | refine wp_orT ?_ | refine wp_iteM ?_ | refine wp_andE ?_ | refine wp_orE ?_ | refine wp_notE ?_ | refine wp_ift ?_ | refine wp_iff ?_ | refine wp_chain2 ?_
  | refine wp_call ?_ | refine wp_nilV ?_ | refine wp_consV ?_ | refine wp_isi ?_ | refine wp_isi2 ?_ | refine wp_lc ?_ | refine wp_seqI ?_ | refine wp_slO ?_ | refine wp_noPart ?_ | refine wp_part ?_ | refine wp_intO ?_ | refine wp_slT ?_ | refine wp_slL ?_
  | refine wp_neg ?_ | refine wp_sub ?_ | refine wp_add ?_ | refine wp_cmp ?_ | refine wp_eqI ?_ | refine wp_neI ?_ | refine wp_is ?_ | refine wp_isNot ?_ | refine wp_lenT ?_ | refine wp_lenL ?_
  | refine wp_absF ?_ | refine wp_intF ?_ | refine wp_intB ?_ | refine wp_allM ?_ | refine wp_anyM ?_ | refine wp_tupT ?_ | refine wp_tupL ?_ | refine wp_listT ?_ | refine wp_listL ?_ | refine wp_max ?_ | refine wp_min ?_
  | refine ws_asgT ?_ | refine ws_par ?_ | refine ws_par3 ?_ | refine ws_parO ?_ | refine ws_retN ?_ | refine ws_drop ?_ | refine ws_brk ?_ | refine ws_cont ?_ | refine ws_raise ?_ | refine ws_for ?_ | refine ws_for0 ?_ | refine forP_n ?_ | refine forP_r ?_ | refine lp_n ?_ | refine lp_c ?_ | refine lp_b ?_ | refine lp_r ?_ | refine lp_x ?_ | refine ws_while ?_
  | refine itemsT ?_ | refine itemsL ?_ | refine parP ?_ | refine par3P ?_ | refine ws_put ?_ | refine wp_zipL ?_ | refine wp_join ?_ | refine joinP ?_ | refine wp_split ?_ | refine splitP ?_
  | refine wp_try ?_ | refine tryV_d ?_ | refine tryV_o ?_ | refine wp_bnd ?_ | refine ws_bnd ?_)
local macro_rules | `(tactic| walk_at "dl2") => `(tactic| first
  | ((with_reducible apply wp_var); · exact rfl)
  | ((with_reducible apply wp_varO); · exact rfl)
  | ((with_reducible apply wp_take); · exact rfl)
  | ((with_reducible apply wp_takeO); · exact rfl)
  | ((with_reducible apply lenP); · (show _ ≤ (16777216 : Nat); simp; done))
  | ((with_reducible apply wp_lenD); · exact rfl)
  | ((with_reducible apply wp_lenV); · exact rfl)
  | ((with_reducible apply wp_ixV); · exact rfl)
  | ((with_reducible apply wp_atD); · exact rfl)
  | ((with_reducible apply wp_consL); · exact rfl)
  | ((with_reducible apply wp_in); · exact rfl
     · exact rfl)
  | ((with_reducible apply fin_d); · exact rfl)
  | ((with_reducible apply fin_o); · exact rfl)
  | ((with_reducible apply fin_n); · exact rfl)
  | ((with_reducible apply fin_x); · exact rfl)
  | ((with_reducible apply wp_zip); · exact rfl
     · exact rfl)
  | ((with_reducible apply wp_enum); · exact rfl)
  | ((with_reducible apply wp_eq); · exact rfl)
  | ((with_reducible apply wp_ne); · exact rfl)
  | ((with_reducible apply wp_pow); · decide)
  | ((with_reducible apply wp_at); · exact rfl
     · exact rfl)
  | ((with_reducible apply wp_atS); · exact rfl
     · exact rfl)
  | ((with_reducible apply wp_isX); · exact rfl)
  | ((with_reducible apply wp_addL); · (show _ ≤ (16777216 : Nat); first | (simp; done) | (simp; omega) | omega))
  | ((with_reducible apply wp_addT); · (show _ ≤ (16777216 : Nat); first | (simp; done) | (simp; omega) | omega))
  | ((with_reducible apply plainP); · first | exact rfl | assumption)
  | ((with_reducible apply asgP); · exact rfl)
  | ((with_reducible apply someP); · exact rfl)
  | ((with_reducible apply ws_app); · exact rfl)
  | ((with_reducible apply appP); · exact rfl
     · (show _ < (16777216 : Nat); first | (simp; done) | (simp; omega) | omega))
  | ((with_reducible apply ws_putAt); · exact rfl
     · exact rfl)
  | ((with_reducible apply ws_forC); · exact rfl)
  | ((with_reducible apply wp_splitF); · exact rfl)
  | ((with_reducible apply wp_joinF); · exact rfl
     · exact rfl
     · decide)
  | ((with_reducible apply ws_ifT); · exact rfl)
  | ((with_reducible apply ws_ifF); · exact rfl)
  | ((with_reducible apply wp_ifT); · exact rfl)
  | ((with_reducible apply wp_ifF); · exact rfl))
local macro_rules | `(tactic| walk_at "dl") => `(tactic| repeat (first | walk_at "dl1" | walk_at "dl2"))
-- DLEND
/-! all tables with entries at the ends, told in two ways -/
theorem all_tabs {n : Nat} {L H : List (List Int)} (S : Sq n L H) : (cpD [[]] (allPrs L H)).map (fun s => D.tup (chunk n n s)) = (cpD [[]] (chs L H)).map .tup := by
  have hz : (List.zipWith prs L H).length = n := by rw [List.length_zipWith, S.l, S.h, Nat.min_self]
  have q := chunk_cp n (List.zipWith prs L H) fun ps hp => by
    rw [← List.map_uncurry_zip_eq_zipWith] at hp
    obtain ⟨⟨x, y⟩, hm, rfl⟩ := List.mem_map.mp hp
    have := List.of_mem_zip hm
    have l1 : x.length = n := S.lr x this.1
    have l2 : y.length = n := S.hr y this.2
    exact (prs_len (xs := x) (ys := y) (by omega)).trans l1
  rw [hz] at q
  have e : (List.zipWith prs L H).map (fun ps => (cpD [[]] ps).map D.tup) = chs L H := by
    unfold chs
    rw [List.map_zipWith]
  rw [e] at q
  unfold allPrs
  rw [← q, List.map_map]
  rfl
/-! minors, written out -/
def lotN : Nat → List (List Nat)
  | 1 => [[], [0]]
  | 2 => [[], [0], [0, 1], [1]]
  | 3 => [[], [0], [0, 1], [0, 1, 2], [0, 2], [1], [1, 2], [2]]
  | _ => []
def dt (M : Nat → Nat → Int) : List Nat → Int
  | [] => 1
  | [i] => M i i
  | [i, j] => M i i * M j j - M i j * M j i
  | [i, j, k] => M i i * (M j j * M k k - M j k * M k j) - M i j * (M j i * M k k - M j k * M k i) + M i k * (M j i * M k j - M j j * M k i)
  | _ => 0
def mat (n : Nat) (M : Nat → Nat → Int) : D := .tup ((List.range n).map fun i => .tup ((List.range n).map fun j => .int (M i j)))
def sg (n : Nat) (M : Nat → Nat → Int) : Bool := (lotN n).all fun l => decide (0 < dt M l)
def lotD (l : List Nat) : D := .tup (l.map fun (i : Nat) => .int (i : Nat))
theorem lots_lotN {n : Nat} (h1 : 1 ≤ n) (hn : n ≤ 3) : lots n = (lotN n).map lotD := by
  obtain rfl | rfl | rfl : n = 1 ∨ n = 2 ∨ n = 3 := by omega
  all_goals rfl
/-- a function on lots' data from one on lots -/
def onLot (f : List Nat → Int) : D → Int
  | .tup ds => f (ds.map fun d => match d with
    | .int i => i.toNat
    | _ => 0)
  | _ => 0
theorem onLot_lotD (f : List Nat → Int) (l : List Nat) : onLot f (lotD l) = f l := by
  unfold onLot lotD
  simp only [List.map_map]
  congr 1
  induction l with
  | nil => rfl
  | cons a r ih =>
    rw [List.map_cons, ih]
    rfl
def Small (n : Nat) (M : Nat → Nat → Int) : Prop := ∀ i j, i < n → j < n → (M i j).natAbs ≤ 9
theorem mat_tab {n : Nat} {M : Nat → Nat → Int} (h : Small n M) : TabOk n (mat n M) := ⟨_, rfl, by simp, fun r hr => by
  obtain ⟨i, hi, rfl⟩ := List.mem_map.mp hr
  refine ⟨_, rfl, by simp, fun x hx => ?_⟩
  obtain ⟨j, hj, rfl⟩ := List.mem_map.mp hx
  have := h i j (List.mem_range.mp hi) (List.mem_range.mp hj)
  exact ⟨_, rfl, by omega, by omega⟩⟩
theorem both_dt {n : Nat} {M : Nat → Nat → Int} (h1 : 1 ≤ n) (hn : n ≤ 3) (h : Small n M) : ∀ l ∈ lotN n, Both (mat n M) (lotD l) (dt M l) := by
  obtain rfl | rfl | rfl : n = 1 ∨ n = 2 ∨ n = 3 := by omega
  · have a := h 0 0 (by decide) (by decide)
    intro l hl
    simp only [lotN, List.mem_cons, List.not_mem_nil, or_false] at hl
    rcases hl with z | z <;> subst z
    · exact both_ok (sub := []) (by kernel_rfl) (by kernel_rfl) (det0 4) (ldet0)
    · exact both_ok (sub := [[M 0 0]]) (by kernel_rfl) (by kernel_rfl) (det1 (k := 3) a) (ldet1)
  · have a := h 0 0 (by decide) (by decide)
    have b := h 0 1 (by decide) (by decide)
    have c := h 1 0 (by decide) (by decide)
    have d := h 1 1 (by decide) (by decide)
    intro l hl
    simp only [lotN, List.mem_cons, List.not_mem_nil, or_false] at hl
    rcases hl with z | z | z | z <;> subst z
    · exact both_ok (sub := []) (by kernel_rfl) (by kernel_rfl) (det0 4) (ldet0)
    · exact both_ok (sub := [[M 0 0]]) (by kernel_rfl) (by kernel_rfl) (det1 (k := 3) a) (ldet1)
    · exact both_ok (sub := [[M 0 0, M 0 1], [M 1 0, M 1 1]]) (by kernel_rfl) (by kernel_rfl) (det2 (k := 2) a b c d) (ldet2 a b c d)
    · exact both_ok (sub := [[M 1 1]]) (by kernel_rfl) (by kernel_rfl) (det1 (k := 3) d) (ldet1)
  · have a := h 0 0 (by decide) (by decide)
    have b := h 0 1 (by decide) (by decide)
    have c := h 0 2 (by decide) (by decide)
    have d := h 1 0 (by decide) (by decide)
    have e := h 1 1 (by decide) (by decide)
    have f := h 1 2 (by decide) (by decide)
    have g := h 2 0 (by decide) (by decide)
    have k := h 2 1 (by decide) (by decide)
    have i := h 2 2 (by decide) (by decide)
    intro l hl
    simp only [lotN, List.mem_cons, List.not_mem_nil, or_false] at hl
    rcases hl with z | z | z | z | z | z | z | z <;> subst z
    · exact both_ok (sub := []) (by kernel_rfl) (by kernel_rfl) (det0 4) (ldet0)
    · exact both_ok (sub := [[M 0 0]]) (by kernel_rfl) (by kernel_rfl) (det1 (k := 3) a) (ldet1)
    · exact both_ok (sub := [[M 0 0, M 0 1], [M 1 0, M 1 1]]) (by kernel_rfl) (by kernel_rfl) (det2 (k := 2) a b d e) (ldet2 a b d e)
    · exact both_ok (sub := [[M 0 0, M 0 1, M 0 2], [M 1 0, M 1 1, M 1 2], [M 2 0, M 2 1, M 2 2]]) (by kernel_rfl) (by kernel_rfl) (det3 (k := 1) a b c d e f g k i) (ldet3 a b c d e f g k i)
    · exact both_ok (sub := [[M 0 0, M 0 2], [M 2 0, M 2 2]]) (by kernel_rfl) (by kernel_rfl) (det2 (k := 2) a c g i) (ldet2 a c g i)
    · exact both_ok (sub := [[M 1 1]]) (by kernel_rfl) (by kernel_rfl) (det1 (k := 3) e) (ldet1)
    · exact both_ok (sub := [[M 1 1, M 1 2], [M 2 1, M 2 2]]) (by kernel_rfl) (by kernel_rfl) (det2 (k := 2) e f k i) (ldet2 e f k i)
    · exact both_ok (sub := [[M 2 2]]) (by kernel_rfl) (by kernel_rfl) (det1 (k := 3) i) (ldet1)
theorem mat_single {n : Nat} {M : Nat → Nat → Int} (h1 : 1 ≤ n) (hn : n ≤ 3) (h : Small n M) :
    f_is_single_value [.d (mat n M)] = ⟨.ok (.d (.bl (sg n M))), [], true⟩ ∧ f_is_single [.d (mat n M)] = ⟨.ok (.d (.bl (sg n M))), [], true⟩ ∧ f__law_is_single [.d (mat n M)] = ⟨.ok (.d (.bl (sg n M))), [], true⟩ := by
  have hb : ∀ lot ∈ lots n, Both (mat n M) lot (onLot (dt M) lot) := fun lot hl => by
    rw [lots_lotN h1 hn] at hl
    obtain ⟨l, hl2, rfl⟩ := List.mem_map.mp hl
    rw [onLot_lotD]
    exact both_dt h1 hn h l hl2
  have e : ((lots n).all fun l => decide (0 < onLot (dt M) l)) = sg n M := by
    rw [lots_lotN h1 hn, List.all_map]
    unfold sg
    congr 1
    funext l
    show decide (0 < onLot (dt M) (lotD l)) = _
    rw [onLot_lotD]
  obtain ⟨q1, q2⟩ := single_ok (mat_tab h) h1 hn hb
  rw [e] at q1 q2
  refine ⟨?_, q1, q2⟩
  rw [← e]
  refine run_eq ?_
  unfold m_is_single_value
  have it := (lots_it (mat_tab h) h1 hn (e := startE 2 [.d (mat n M)]) rfl).1
  walk_at "dl"
  show WP (lenF [.tup _]) _ _ _
  refine wp_lenT ?_
  rw [List.length_map, List.length_range]
  walk_at "dl"
  refine cp1 (lots_ok h1 hn) ?_
  walk_at "dl"
  refine lc_m (fun l => .bl (decide (0 < onLot (dt M) l))) (by have := @lots_len n; unfold mx; omega) (fun l hl => ⟨_, rfl, ?_⟩) ?_
  · walk_at "dl"
    refine cp2 (hb l hl).1 ?_
    walk_at "dl"
    exact ⟨rfl, rfl⟩
  · walk_at "dl"
    exact ⟨rfl, rfl⟩
/-! tables of the product -/
def ms (n : Nat) (s : List D) (i j : Nat) : Int := match s[i * n + j]? with
  | some (.int v) => v
  | _ => 0
theorem chunk_mat {n : Nat} {s : List D} (hl : s.length = n * n) (h : ∀ d ∈ s, ∃ v : Int, d = .int v ∧ v.natAbs ≤ 9) : D.tup (chunk n n s) = mat n (ms n s) ∧ Small n (ms n s) := by
  have at' : ∀ i j, i < n → j < n → i * n + j < s.length := fun i j hi hj => by
    have : (i + 1) * n ≤ n * n := Nat.mul_le_mul_right n hi
    rw [Nat.succ_mul] at this
    omega
  have val : ∀ i j, i < n → j < n → ∃ v : Int, s[i * n + j]? = some (.int v) ∧ v.natAbs ≤ 9 := fun i j hi hj => by
    have hk := at' i j hi hj
    obtain ⟨v, h1, h2⟩ := h s[i * n + j] (List.getElem_mem hk)
    exact ⟨v, by rw [List.getElem?_eq_getElem hk, h1], h2⟩
  constructor
  · unfold mat
    rw [chunk_get]
    congr 1
    apply List.map_congr_left
    intro i hi
    have hi := List.mem_range.mp hi
    congr 1
    have : (i + 1) * n ≤ n * n := Nat.mul_le_mul_right n hi
    rw [Nat.succ_mul] at this
    apply List.ext_getElem
    · rw [List.length_take, List.length_drop, List.length_map, List.length_range]
      omega
    · intro j h1 h2
      rw [List.length_map, List.length_range] at h2
      obtain ⟨v, e, _⟩ := val i j hi h2
      rw [List.getElem_take, List.getElem_drop, List.getElem_map, List.getElem_range]
      have e2 : s[i * n + j]'(at' i j hi h2) = .int v := by
        have := List.getElem?_eq_getElem (at' i j hi h2)
        rw [e] at this
        exact (Option.some.inj this).symm
      rw [e2]
      unfold ms
      rw [e]
  · intro i j hi hj
    obtain ⟨v, e, hv⟩ := val i j hi hj
    unfold ms
    rw [e]
    exact hv
theorem prs_get {x y : List Int} {j : Nat} {a b : Int} (h1 : x[j]? = some a) (h2 : y[j]? = some b) : (prs x y)[j]? = some ((sdI [a, b]).map .int) := by
  unfold prs
  rw [List.getElem?_zipWith, h1, h2]
theorem flat_get : ∀ (R : List (List (List D))) {n i j : Nat} {r : List (List D)}, (∀ ps ∈ R, ps.length = n) → R[i]? = some r → j < n → R.flatten[i * n + j]? = r[j]?
  | [], n, i, j, r, _, h, _ => by simp at h
  | ps :: R, n, 0, j, r, hl, h, hj => by
    have e : ps = r := by simpa using h
    subst e
    have := hl ps List.mem_cons_self
    rw [List.flatten_cons, Nat.zero_mul, Nat.zero_add, List.getElem?_append_left (by omega)]
  | ps :: R, n, i + 1, j, r, hl, h, hj => by
    have := hl ps List.mem_cons_self
    rw [List.flatten_cons, Nat.succ_mul, List.getElem?_append_right (by omega)]
    have e : i * n + n + j - ps.length = i * n + j := by omega
    rw [e]
    exact flat_get R (fun q hq => hl q (List.mem_cons_of_mem _ hq)) (by simpa using h) hj
theorem zw_len {n : Nat} {L H : List (List Int)} (S : Sq n L H) : ∀ ps ∈ List.zipWith prs L H, ps.length = n := fun ps hp => by
  rw [← List.map_uncurry_zip_eq_zipWith] at hp
  obtain ⟨⟨x, y⟩, hm, rfl⟩ := List.mem_map.mp hp
  have := List.of_mem_zip hm
  have l1 : x.length = n := S.lr x this.1
  have l2 : y.length = n := S.hr y this.2
  exact (prs_len (xs := x) (ys := y) (by omega)).trans l1
theorem all_len {n : Nat} {L H : List (List Int)} (S : Sq n L H) : (allPrs L H).length = n * n := by
  have : ∀ R : List (List (List D)), (∀ ps ∈ R, ps.length = n) → R.flatten.length = R.length * n := fun R => by
    induction R with
    | nil => simp
    | cons a r ih =>
      intro h
      rw [List.flatten_cons, List.length_append, h a List.mem_cons_self, ih fun q hq => h q (List.mem_cons_of_mem _ hq), List.length_cons, Nat.succ_mul, Nat.add_comm]
  unfold allPrs
  rw [this _ (zw_len S), List.length_zipWith, S.l, S.h, Nat.min_self]
/-- the entries of a table, from its lists -/
def en (L : List (List Int)) (i j : Nat) : Int := (L.getD i []).getD j 0
theorem all_get {n : Nat} {L H : List (List Int)} (S : Sq n L H) {i j : Nat} (hi : i < n) (hj : j < n) : (allPrs L H)[i * n + j]? = some ((sdI [en L i j, en H i j]).map .int) := by
  obtain ⟨x, e1⟩ : ∃ x, L[i]? = some x := ⟨L[i]'(by have := S.l; omega), List.getElem?_eq_getElem (by have := S.l; omega)⟩
  obtain ⟨y, e2⟩ : ∃ x, H[i]? = some x := ⟨H[i]'(by have := S.h; omega), List.getElem?_eq_getElem (by have := S.h; omega)⟩
  have l1 := S.lr x (List.mem_of_getElem? e1)
  have l2 := S.hr y (List.mem_of_getElem? e2)
  have z : (List.zipWith prs L H)[i]? = some (prs x y) := by rw [List.getElem?_zipWith, e1, e2]
  unfold allPrs
  rw [flat_get _ (zw_len S) z hj]
  have f1 : x[j]? = some (en L i j) := by
    unfold en
    simp only [List.getD_eq_getElem?_getD, e1, Option.getD_some]
    rw [List.getElem?_eq_getElem (by omega)]
    rfl
  have f2 : y[j]? = some (en H i j) := by
    unfold en
    simp only [List.getD_eq_getElem?_getD, e2, Option.getD_some]
    rw [List.getElem?_eq_getElem (by omega)]
    rfl
  exact prs_get f1 f2
def SmallL (n : Nat) (L : List (List Int)) : Prop := ∀ i j, i < n → j < n → (en L i j).natAbs ≤ 9
theorem sd_mem {a b v : Int} : v ∈ sdI [a, b] ↔ v = a ∨ v = b := by rw [mem_sdI]; simp
theorem divmod {n k : Nat} (hk : k < n * n) : ∃ i j, i < n ∧ j < n ∧ k = i * n + j := by
  have hn : 0 < n := by
    cases n with
    | zero => simp at hk
    | succ m => omega
  exact ⟨k / n, k % n, (Nat.div_lt_iff_lt_mul hn).mpr hk, Nat.mod_lt _ hn, by rw [Nat.mul_comm]; exact (Nat.div_add_mod k n).symm⟩
/-- each table of the product -/
theorem tab_of {n : Nat} {L H : List (List Int)} (S : Sq n L H) (hL : SmallL n L) (hH : SmallL n H) {T : D} (hT : T ∈ (cpD [[]] (chs L H)).map D.tup) : ∃ M, T = mat n M ∧ Small n M := by
  rw [← all_tabs S] at hT
  obtain ⟨s, hs, rfl⟩ := List.mem_map.mp hT
  obtain ⟨h1, h2⟩ := cpD_len _ s hs
  rw [all_len S] at h1
  obtain ⟨q1, q2⟩ := chunk_mat h1 fun d hd => by
    obtain ⟨k, hk, rfl⟩ := List.mem_iff_getElem.mp hd
    obtain ⟨ch, h3, h4⟩ := h2 k hk
    obtain ⟨i, j, hi, hj, rfl⟩ := divmod (by omega : k < n * n)
    rw [all_get S hi hj] at h3
    rw [← Option.some.inj h3] at h4
    obtain ⟨v, hv, e⟩ := List.mem_map.mp h4
    refine ⟨v, e.symm, ?_⟩
    rcases sd_mem.mp hv with z | z <;> subst z
    · exact hL i j hi hj
    · exact hH i j hi hj
  exact ⟨_, q1, q2⟩
/-- each choice of ends is there -/
theorem tab_in {n : Nat} {L H : List (List Int)} (S : Sq n L H) {M : Nat → Nat → Int} (h : ∀ i j, i < n → j < n → M i j = en L i j ∨ M i j = en H i j) : mat n M ∈ (cpD [[]] (chs L H)).map D.tup := by
  rw [← all_tabs S]
  let s : List D := (List.range (n * n)).map fun k => .int (M (k / n) (k % n))
  have hl : s.length = n * n := by simp [s]
  have hn : 0 < n := S.n1
  have dm : ∀ i j, j < n → (i * n + j) / n = i ∧ (i * n + j) % n = j := fun i j hj => by
    constructor
    · rw [Nat.mul_comm, Nat.mul_add_div hn, Nat.div_eq_of_lt hj, Nat.add_zero]
    · rw [Nat.mul_comm, Nat.mul_add_mod, Nat.mod_eq_of_lt hj]
  refine List.mem_map.mpr ⟨s, mem_cpD _ s (by rw [hl, all_len S]) fun k hk => ?_, ?_⟩
  · obtain ⟨i, j, hi, hj, rfl⟩ := divmod (by omega : k < n * n)
    refine ⟨_, all_get S hi hj, ?_⟩
    have e : s[i * n + j] = .int (M i j) := by
      simp only [s, List.getElem_map, List.getElem_range, (dm i j hj).1, (dm i j hj).2]
    rw [e]
    exact List.mem_map.mpr ⟨_, sd_mem.mpr (h i j hi hj), rfl⟩
  · show D.tup (chunk n n s) = mat n M
    unfold mat
    rw [chunk_get]
    congr 1
    apply List.map_congr_left
    intro i hi
    have hi := List.mem_range.mp hi
    congr 1
    have : (i + 1) * n ≤ n * n := Nat.mul_le_mul_right n hi
    rw [Nat.succ_mul] at this
    apply List.ext_getElem
    · simp only [List.length_take, List.length_drop, List.length_map, List.length_range, hl]
      omega
    · intro j h1 h2
      rw [List.length_map, List.length_range] at h2
      rw [List.getElem_take, List.getElem_drop, List.getElem_map, List.getElem_range]
      simp only [s, List.getElem_map, List.getElem_range, (dm i j h2).1, (dm i j h2).2]
end K08
set_option maxHeartbeats 4000000
namespace K08
open PySem PySem.Spec L2 DL
/-! between single ends all is single: minors are straight in each entry -/
def up (M : Nat → Nat → Int) (a b : Nat) (x : Int) (i j : Nat) : Int := if i = a ∧ j = b then x else M i j
theorem aff3 {A B lo hi x : Int} (h1 : lo ≤ x) (h2 : x ≤ hi) (p : 0 < A * lo + B) (q : 0 < A * hi + B) : 0 < A * x + B := by
  by_cases h : 0 ≤ A
  · have := Int.mul_le_mul_of_nonneg_left h1 h
    omega
  · have := Int.mul_le_mul_of_nonpos_left (show A ≤ 0 by omega) h2
    omega
theorem dt_aff {n : Nat} (M : Nat → Nat → Int) (h1 : 1 ≤ n) (hn : n ≤ 3) : ∀ l ∈ lotN n, ∀ a b, a < n → b < n → ∃ A B, ∀ x, dt (up M a b x) l = A * x + B := by
  intro l hl a b ha hb
  refine ⟨dt (up M a b 1) l - dt (up M a b 0) l, dt (up M a b 0) l, fun x => ?_⟩
  obtain rfl | rfl | rfl : n = 1 ∨ n = 2 ∨ n = 3 := by omega
  · obtain rfl : a = 0 := by omega
    obtain rfl : b = 0 := by omega
    simp only [lotN, List.mem_cons, List.not_mem_nil, or_false] at hl
    rcases hl with z | z <;> subst z <;> simp [dt, up]
  · obtain rfl | rfl : a = 0 ∨ a = 1 := by omega
    all_goals obtain rfl | rfl : b = 0 ∨ b = 1 := by omega
    all_goals
      simp only [lotN, List.mem_cons, List.not_mem_nil, or_false] at hl
      rcases hl with z | z | z | z <;> subst z <;> simp [dt, up] <;> grind
  · obtain rfl | rfl | rfl : a = 0 ∨ a = 1 ∨ a = 2 := by omega
    all_goals obtain rfl | rfl | rfl : b = 0 ∨ b = 1 ∨ b = 2 := by omega
    all_goals
      simp only [lotN, List.mem_cons, List.not_mem_nil, or_false] at hl
      rcases hl with z | z | z | z | z | z | z | z <;> subst z <;> simp [dt, up] <;> grind
theorem up_self (M : Nat → Nat → Int) (a b : Nat) : up M a b (M a b) = M := by
  funext i j
  unfold up
  split
  · rename_i h
    rw [h.1, h.2]
  · rfl
theorem box {n : Nat} {lo hi : Nat → Nat → Int} (h1 : 1 ≤ n) (hn : n ≤ 3) (hlh : ∀ i j, i < n → j < n → lo i j ≤ hi i j) (hv : ∀ V : Nat → Nat → Int, (∀ i j, i < n → j < n → V i j = lo i j ∨ V i j = hi i j) → sg n V = true) :
    ∀ (k : Nat) (M : Nat → Nat → Int), (∀ i j, i < n → j < n → (lo i j ≤ M i j ∧ M i j ≤ hi i j) ∧ (k ≤ i * n + j → M i j = lo i j ∨ M i j = hi i j)) → sg n M = true
  | 0, M, h => hv M fun i j hi hj => (h i j hi hj).2 (Nat.zero_le _)
  | k + 1, M, h => by
    by_cases hk : k < n * n
    · obtain ⟨a, b, ha, hb, rfl⟩ := divmod hk
      have uniq : ∀ i j, i < n → j < n → i * n + j = a * n + b → i = a ∧ j = b := fun i j hi hj e => by
        have d1 : (i * n + j) / n = i := by rw [Nat.mul_comm, Nat.mul_add_div (by omega), Nat.div_eq_of_lt hj, Nat.add_zero]
        have d2 : (a * n + b) / n = a := by rw [Nat.mul_comm, Nat.mul_add_div (by omega), Nat.div_eq_of_lt hb, Nat.add_zero]
        have : i = a := by rw [← d1, ← d2, e]
        subst this
        omega
      have end' : ∀ x, (x = lo a b ∨ x = hi a b) → sg n (up M a b x) = true := fun x hx => box h1 hn hlh hv (a * n + b) (up M a b x) fun i j hi hj => by
        unfold up
        have hab := hlh a b ha hb
        by_cases c : i = a ∧ j = b
        · rw [if_pos c, c.1, c.2]
          exact ⟨by rcases hx with z | z <;> subst z <;> omega, fun _ => hx⟩
        · rw [if_neg c]
          obtain ⟨q1, q2⟩ := h i j hi hj
          refine ⟨q1, fun hle => q2 ?_⟩
          rcases Nat.lt_or_eq_of_le hle with z | z
          · exact z
          · exact absurd (uniq i j hi hj z.symm) c
      have e1 := end' _ (.inl rfl)
      have e2 := end' _ (.inr rfl)
      unfold sg at e1 e2 ⊢
      refine List.all_eq_true.mpr fun l hl => decide_eq_true ?_
      obtain ⟨A, B, hAB⟩ := dt_aff M h1 hn l hl a b ha hb
      have p := of_decide_eq_true (List.all_eq_true.mp e1 l hl)
      have q := of_decide_eq_true (List.all_eq_true.mp e2 l hl)
      rw [hAB] at p q
      have r := aff3 (h a b ha hb).1.1 (h a b ha hb).1.2 p q
      rw [← hAB, up_self] at r
      exact r
    · refine box h1 hn hlh hv k M fun i j hi hj => ⟨(h i j hi hj).1, fun hle => ?_⟩
      have : (i + 1) * n ≤ n * n := Nat.mul_le_mul_right n hi
      rw [Nat.succ_mul] at this
      omega
theorem between {n : Nat} {lo hi M : Nat → Nat → Int} (h1 : 1 ≤ n) (hn : n ≤ 3) (hM : ∀ i j, i < n → j < n → lo i j ≤ M i j ∧ M i j ≤ hi i j) (hv : ∀ V : Nat → Nat → Int, (∀ i j, i < n → j < n → V i j = lo i j ∨ V i j = hi i j) → sg n V = true) : sg n M = true :=
  box h1 hn (fun i j a b => Int.le_trans (hM i j a b).1 (hM i j a b).2) hv (n * n) M fun i j hi hj => ⟨hM i j hi hj, fun hle => by
    have : (i + 1) * n ≤ n * n := Nat.mul_le_mul_right n hi
    rw [Nat.succ_mul] at this
    omega⟩
end K08
set_option maxHeartbeats 4000000
namespace K08
open PySem PySem.Spec L2 DL
-- DLMAC
local macro_rules | `(tactic| walk_at "dl1") => `(tactic| with_reducible first
  | refine ws_seq ?_ | refine seq_n ?_ | refine seq_r ?_ | refine seq_x ?_ | refine ws_asg ?_ | refine ws_ret ?_ | refine ws_if ?_ | refine ws_ift ?_ | refine ws_iff ?_ | refine ws_next ?_
  | refine wp_const ?_ | refine wp_ret ?_ | refine wp_yes ?_ | refine wp_toD ?_ | refine td_d ?_ | refine td_o ?_ | refine wp_ofD ?_ | refine wp_bin2 ?_ | refine wp_un1 ?_ | refine wp_nilA ?_ | refine wp_consA ?_ | refine wp_tup ?_ | refine wp_lst ?_
  | refine wp_tB ?_ | refine tbP ?_ | refine wp_notT ?_ | refine wp_andT ?_ | refine wp_orT ?_ | refine wp_iteM ?_ | refine wp_andE ?_ | refine wp_orE ?_ | refine wp_notE ?_ | refine wp_ift ?_ | refine wp_iff ?_ | refine wp_chain2 ?_
  | refine wp_call ?_ | refine wp_nilV ?_ | refine wp_consV ?_ | refine wp_isi ?_ | refine wp_isi2 ?_ | refine wp_lc ?_ | refine wp_seqI ?_ | refine wp_slO ?_ | refine wp_noPart ?_ | refine wp_part ?_ | refine wp_intO ?_ | refine wp_slT ?_ | refine wp_slL ?_
  | refine wp_neg ?_ | refine wp_sub ?_ | refine wp_add ?_ | refine wp_cmp ?_ | refine wp_eqI ?_ | refine wp_neI ?_ | refine wp_is ?_ | refine wp_isNot ?_ | refine wp_lenT ?_ | refine wp_lenL ?_
  | refine wp_absF ?_ | refine wp_intF ?_ | refine wp_intB ?_ | refine wp_allM ?_ | refine wp_anyM ?_ | refine wp_tupT ?_ | refine wp_tupL ?_ | refine wp_listT ?_ | refine wp_listL ?_ | refine wp_max ?_ | refine wp_min ?_
  | refine ws_asgT ?_ | refine ws_par ?_ | refine ws_par3 ?_ | refine ws_parO ?_ | refine ws_retN ?_ | refine ws_drop ?_ | refine ws_brk ?_ | refine ws_cont ?_ | refine ws_raise ?_ | refine ws_for ?_ | refine ws_for0 ?_ | refine forP_n ?_ | refine forP_r ?_ | refine lp_n ?_ | refine lp_c ?_ | refine lp_b ?_ | refine lp_r ?_ | refine lp_x ?_ | refine ws_while ?_
  | refine itemsT ?_ | refine itemsL ?_ | refine parP ?_ | refine par3P ?_ | refine ws_put ?_ | refine wp_zipL ?_ | refine wp_join ?_ | refine joinP ?_ | refine wp_split ?_ | refine splitP ?_
  | refine wp_try ?_ | refine tryV_d ?_ | refine tryV_o ?_ | refine wp_bnd ?_ | refine ws_bnd ?_)
local macro_rules | `(tactic| walk_at "dl2") => `(tactic| first
  | ((with_reducible apply wp_var); · exact rfl)
  | ((with_reducible apply wp_varO); · exact rfl)
  | ((with_reducible apply wp_take); · exact rfl)
  | ((with_reducible apply wp_takeO); · exact rfl)
  | ((with_reducible apply lenP); · (show _ ≤ (16777216 : Nat); simp; done))
  | ((with_reducible apply wp_lenD); · exact rfl)
  | ((with_reducible apply wp_lenV); · exact rfl)
  | ((with_reducible apply wp_ixV); · exact rfl)
  | ((with_reducible apply wp_atD); · exact rfl)
  | ((with_reducible apply wp_consL); · exact rfl)
  | ((with_reducible apply wp_in); · exact rfl
     · exact rfl)
  | ((with_reducible apply fin_d); · exact rfl)
  | ((with_reducible apply fin_o); · exact rfl)
  | ((with_reducible apply fin_n); · exact rfl)
  | ((with_reducible apply fin_x); · exact rfl)
  | ((with_reducible apply wp_zip); · exact rfl
     · exact rfl)
  | ((with_reducible apply wp_enum); · exact rfl)
  | ((with_reducible apply wp_eq); · exact rfl)
  | ((with_reducible apply wp_ne); · exact rfl)
  | ((with_reducible apply wp_pow); · decide)
  | ((with_reducible apply wp_at); · exact rfl
     · exact rfl)
  | ((with_reducible apply wp_atS); · exact rfl
     · exact rfl)
  | ((with_reducible apply wp_isX); · exact rfl)
  | ((with_reducible apply wp_addL); · (show _ ≤ (16777216 : Nat); first | (simp; done) | (simp; omega) | omega))
  | ((with_reducible apply wp_addT); · (show _ ≤ (16777216 : Nat); first | (simp; done) | (simp; omega) | omega))
  | ((with_reducible apply plainP); · first | exact rfl | assumption)
  | ((with_reducible apply asgP); · exact rfl)
  | ((with_reducible apply someP); · exact rfl)
  | ((with_reducible apply ws_app); · exact rfl)
  | ((with_reducible apply appP); · exact rfl
     · (show _ < (16777216 : Nat); first | (simp; done) | (simp; omega) | omega))
  | ((with_reducible apply ws_putAt); · exact rfl
     · exact rfl)
  | ((with_reducible apply ws_forC); · exact rfl)
  | ((with_reducible apply wp_splitF); · exact rfl)
  | ((with_reducible apply wp_joinF); · exact rfl
     · exact rfl
     · decide)
  | ((with_reducible apply ws_ifT); · exact rfl)
  | ((with_reducible apply ws_ifF); · exact rfl)
  | ((with_reducible apply wp_ifT); · exact rfl)
  | ((with_reducible apply wp_ifF); · exact rfl))
local macro_rules | `(tactic| walk_at "dl") => `(tactic| repeat (first | walk_at "dl1" | walk_at "dl2"))
-- DLEND
/-! all_single, first_bad -/
theorem row_wf {xs : List Int} (h : xs.length ≤ 3) : Wf 3 1 (rowT xs) := ⟨by simpa using h, fun x hx => by
  obtain ⟨v, _, rfl⟩ := List.mem_map.mp hx
  trivial⟩
structure Tb (n : Nat) (L : List (List Int)) : Prop where
  n1 : 1 ≤ n
  n3 : n ≤ 3
  l : L.length = n
  lr : ∀ r ∈ L, r.length = n
  sm : ∀ r ∈ L, ∀ x ∈ r, x.natAbs ≤ 9
theorem Tb.tab {n : Nat} {L : List (List Int)} (h : Tb n L) : TabOk n (tabT L) := ⟨_, rfl, by rw [List.length_map, h.l], fun r hr => by
  obtain ⟨x, hx, rfl⟩ := List.mem_map.mp hr
  refine ⟨_, rfl, by rw [List.length_map, h.lr x hx], fun d hd => ?_⟩
  obtain ⟨v, hv, rfl⟩ := List.mem_map.mp hd
  have := h.sm x hx v hv
  exact ⟨v, rfl, by omega, by omega⟩⟩
theorem Tb.need {n : Nat} {L : List (List Int)} (h : Tb n L) : f_need_table [.d (tabT L)] = ⟨.ok (.d .non), [], true⟩ := need_ok h.tab h.n1 h.n3
theorem Tb.get {n : Nat} {L : List (List Int)} (h : Tb n L) {i j : Nat} (hi : i < n) (hj : j < n) : ∃ r, L[i]? = some r ∧ r[j]? = some (en L i j) := by
  have e1 : L[i]? = some (L[i]'(by have := h.l; omega)) := List.getElem?_eq_getElem _
  have l1 := h.lr _ (List.mem_of_getElem? e1)
  refine ⟨_, e1, ?_⟩
  unfold en
  simp only [List.getD_eq_getElem?_getD, e1, Option.getD_some]
  rw [List.getElem?_eq_getElem (by omega)]
  rfl
theorem Tb.small {n : Nat} {L : List (List Int)} (h : Tb n L) : SmallL n L := fun i j hi hj => by
  obtain ⟨r, h1, h2⟩ := h.get hi hj
  exact h.sm r (List.mem_of_getElem? h1) _ (List.mem_of_getElem? h2)
theorem Tb.mat {n : Nat} {L : List (List Int)} (h : Tb n L) : tabT L = mat n (en L) := by
  unfold tabT K08.mat
  congr 1
  apply List.ext_getElem?
  intro i
  by_cases hi : i < n
  · have e1 : L[i]? = some (L[i]'(by have := h.l; omega)) := List.getElem?_eq_getElem _
    rw [List.getElem?_map, List.getElem?_map, e1, List.getElem?_range hi]
    show some (rowT _) = some _
    congr 1
    unfold rowT
    congr 1
    apply List.ext_getElem?
    intro j
    by_cases hj : j < n
    · obtain ⟨r, h1, h2⟩ := h.get hi hj
      rw [e1] at h1
      rw [Option.some.inj h1, List.getElem?_map, List.getElem?_map, h2, List.getElem?_range hj]
      rfl
    · have := h.lr _ (List.mem_of_getElem? e1)
      rw [List.getElem?_eq_none (by simp; omega), List.getElem?_eq_none (by simp; omega)]
  · have := h.l
    rw [List.getElem?_eq_none (by simp; omega), List.getElem?_eq_none (by simp; omega)]
/-- bounds: entry by entry -/
def Lo (n : Nat) (L H : List (List Int)) : Prop := ∀ i j, i < n → j < n → en L i j ≤ en H i j
theorem sq_of {n : Nat} {L H : List (List Int)} (hL : Tb n L) (hH : Tb n H) : Sq n L H := ⟨hL.n1, hL.n3, hL.l, hH.l, hL.lr, hH.lr⟩
theorem zip_any : ∀ (x y : List Int), ((zipD (x.map D.int) (y.map D.int)).any fun d => match d with
    | .tup [.int a, .int b] => gtP a b
    | _ => false) = true ↔ ∃ (j : Nat) (a b : Int), x[j]? = some a ∧ y[j]? = some b ∧ b < a
  | [], y => by simp [zipD]
  | a :: x, [] => by simp [zipD]
  | a :: x, b :: y => by
    show (gtP a b || _) = true ↔ _
    rw [Bool.or_eq_true, zip_any x y]
    constructor
    · rintro (h | ⟨j, u, v, h1, h2, h3⟩)
      · exact ⟨0, a, b, rfl, rfl, of_decide_eq_true h⟩
      · exact ⟨j + 1, u, v, h1, h2, h3⟩
    · rintro ⟨j, u, v, h1, h2, h3⟩
      cases j with
      | zero =>
        obtain rfl : a = u := by simpa using h1
        obtain rfl : b = v := by simpa using h2
        exact .inl (decide_eq_true h3)
      | succ j => exact .inr ⟨j, u, v, by simpa using h1, by simpa using h2, h3⟩
abbrev gtD (d : D) : D := .bl (match d with
    | .tup [.int a, .int b] => gtP a b
    | _ => false)
/-- one row of need_bounds -/
theorem bounds_row {x y : List Int} {e : Ev} {v0 v1 : Option SV} {Q : Fl → Ev → Prop} (he : e = [v0, v1, some (.d (rowT x)), some (.d (rowT y)), none, none]) (hx : x.length ≤ 3)
    (q : (∃ (j : Nat) (a b : Int), x[j]? = some a ∧ y[j]? = some b ∧ b < a) ∧ Q (.exc ⟨"InvalidTable", none⟩) e ∨ (¬ ∃ (j : Nat) (a b : Int), x[j]? = some a ∧ y[j]? = some b ∧ b < a) ∧ Q .next e) :
    WS (ifS (tB (bnd (consA (toD (lcO [4, 5] (bnd (consA (varE 2) (consA (varE 3) (nilA))) zipF) (tupN 2 (consT (nameT 4) (consT (nameT 5) (nilT)))) (yesT) (bin2 (cmpF gtP) (varE 4) (varE 5)))) (nilA)) anyF)) (raiseS "InvalidTable") (nextS)) e Q := by
  subst he
  have zl : ∀ (x y : List Int), (zipD (x.map D.int) (y.map D.int)).length ≤ x.length := fun x => by
    induction x with
    | nil => intro y; simp [zipD]
    | cons a x ih =>
      intro y
      cases y with
      | nil => simp [zipD]
      | cons b y =>
        have := ih y
        show (zipD (x.map D.int) (y.map D.int)).length + 1 ≤ x.length + 1
        omega
  unfold rowT
  walk_at "dl"
  refine lc_m gtD (by have := zl x y; unfold mx; omega) (fun d hd => ?_) ?_
  · obtain ⟨i, hi, rfl⟩ := List.mem_iff_getElem.mp hd
    obtain ⟨a, b, _, _, e⟩ := zipD_get (xs := x) (ys := y) (i := i) (List.getElem?_eq_getElem hi)
    rw [e]
    refine ⟨_, rfl, ?_⟩
    walk_at "dl"
    exact ⟨rfl, rfl⟩
  · walk_at "dl"
    refine ws_ifc (fun h => ?_) fun h => ?_
    · walk_at "dl"
      rcases q with q | q
      · exact q.2
      · exact absurd ((zip_any x y).mp h) q.1
    · walk_at "dl"
      rcases q with q | q
      · rw [(zip_any x y).mpr q.1] at h
        cases h
      · exact q.2
end K08
set_option maxHeartbeats 4000000
namespace K08
open PySem PySem.Spec L2 DL
-- DLMAC
local macro_rules | `(tactic| walk_at "dl1") => `(tactic| with_reducible first
  | refine ws_seq ?_ | refine seq_n ?_ | refine seq_r ?_ | refine seq_x ?_ | refine ws_asg ?_ | refine ws_ret ?_ | refine ws_if ?_ | refine ws_ift ?_ | refine ws_iff ?_ | refine ws_next ?_
  | refine wp_const ?_ | refine wp_ret ?_ | refine wp_yes ?_ | refine wp_toD ?_ | refine td_d ?_ | refine td_o ?_ | refine wp_ofD ?_ | refine wp_bin2 ?_ | refine wp_un1 ?_ | refine wp_nilA ?_ | refine wp_consA ?_ | refine wp_tup ?_ | refine wp_lst ?_
  | refine wp_tB ?_ | refine tbP ?_ | refine wp_notT ?_ | refine wp_andT ?_ | refine wp_orT ?_ | refine wp_iteM ?_ | refine wp_andE ?_ | refine wp_orE ?_ | refine wp_notE ?_ | refine wp_ift ?_ | refine wp_iff ?_ | refine wp_chain2 ?_
  | refine wp_call ?_ | refine wp_nilV ?_ | refine wp_consV ?_ | refine wp_isi ?_ | refine wp_isi2 ?_ | refine wp_lc ?_ | refine wp_seqI ?_ | refine wp_slO ?_ | refine wp_noPart ?_ | refine wp_part ?_ | refine wp_intO ?_ | refine wp_slT ?_ | refine wp_slL ?_
  | refine wp_neg ?_ | refine wp_sub ?_ | refine wp_add ?_ | refine wp_cmp ?_ | refine wp_eqI ?_ | refine wp_neI ?_ | refine wp_is ?_ | refine wp_isNot ?_ | refine wp_lenT ?_ | refine wp_lenL ?_
  | refine wp_absF ?_ | refine wp_intF ?_ | refine wp_intB ?_ | refine wp_allM ?_ | refine wp_anyM ?_ | refine wp_tupT ?_ | refine wp_tupL ?_ | refine wp_listT ?_ | refine wp_listL ?_ | refine wp_max ?_ | refine wp_min ?_
  | refine ws_asgT ?_ | refine ws_par ?_ | refine ws_par3 ?_ | refine ws_parO ?_ | refine ws_retN ?_ | refine ws_drop ?_ | refine ws_brk ?_ | refine ws_cont ?_ | refine ws_raise ?_ | refine ws_for ?_ | refine ws_for0 ?_ | refine forP_n ?_ | refine forP_r ?_ | refine lp_n ?_ | refine lp_c ?_ | refine lp_b ?_ | refine lp_r ?_ | refine lp_x ?_ | refine ws_while ?_
  | refine itemsT ?_ | refine itemsL ?_ | refine parP ?_ | refine par3P ?_ | refine ws_put ?_ | refine wp_zipL ?_ | refine wp_join ?_ | refine joinP ?_ | refine wp_split ?_ | refine splitP ?_
  | refine wp_try ?_ | refine tryV_d ?_ | refine tryV_o ?_ | refine wp_bnd ?_ | refine ws_bnd ?_)
local macro_rules | `(tactic| walk_at "dl2") => `(tactic| first
  | ((with_reducible apply wp_var); · exact rfl)
  | ((with_reducible apply wp_varO); · exact rfl)
  | ((with_reducible apply wp_take); · exact rfl)
  | ((with_reducible apply wp_takeO); · exact rfl)
  | ((with_reducible apply lenP); · (show _ ≤ (16777216 : Nat); simp; done))
  | ((with_reducible apply wp_lenD); · exact rfl)
  | ((with_reducible apply wp_lenV); · exact rfl)
  | ((with_reducible apply wp_ixV); · exact rfl)
  | ((with_reducible apply wp_atD); · exact rfl)
  | ((with_reducible apply wp_consL); · exact rfl)
  | ((with_reducible apply wp_in); · exact rfl
     · exact rfl)
  | ((with_reducible apply fin_d); · exact rfl)
  | ((with_reducible apply fin_o); · exact rfl)
  | ((with_reducible apply fin_n); · exact rfl)
  | ((with_reducible apply fin_x); · exact rfl)
  | ((with_reducible apply wp_zip); · exact rfl
     · exact rfl)
  | ((with_reducible apply wp_enum); · exact rfl)
  | ((with_reducible apply wp_eq); · exact rfl)
  | ((with_reducible apply wp_ne); · exact rfl)
  | ((with_reducible apply wp_pow); · decide)
  | ((with_reducible apply wp_at); · exact rfl
     · exact rfl)
  | ((with_reducible apply wp_atS); · exact rfl
     · exact rfl)
  | ((with_reducible apply wp_isX); · exact rfl)
  | ((with_reducible apply wp_addL); · (show _ ≤ (16777216 : Nat); first | (simp; done) | (simp; omega) | omega))
  | ((with_reducible apply wp_addT); · (show _ ≤ (16777216 : Nat); first | (simp; done) | (simp; omega) | omega))
  | ((with_reducible apply plainP); · first | exact rfl | assumption)
  | ((with_reducible apply asgP); · exact rfl)
  | ((with_reducible apply someP); · exact rfl)
  | ((with_reducible apply ws_app); · exact rfl)
  | ((with_reducible apply appP); · exact rfl
     · (show _ < (16777216 : Nat); first | (simp; done) | (simp; omega) | omega))
  | ((with_reducible apply ws_putAt); · exact rfl
     · exact rfl)
  | ((with_reducible apply ws_forC); · exact rfl)
  | ((with_reducible apply wp_splitF); · exact rfl)
  | ((with_reducible apply wp_joinF); · exact rfl
     · exact rfl
     · decide)
  | ((with_reducible apply ws_ifT); · exact rfl)
  | ((with_reducible apply ws_ifF); · exact rfl)
  | ((with_reducible apply wp_ifT); · exact rfl)
  | ((with_reducible apply wp_ifF); · exact rfl))
local macro_rules | `(tactic| walk_at "dl") => `(tactic| repeat (first | walk_at "dl1" | walk_at "dl2"))
-- DLEND
theorem need_err {L k : Nat} {T : D} (hw : Wf L k T) (hL : L ≤ 1000) (h : tabB T = false) : f_need_table [.d T] = ⟨.error ⟨"InvalidTable", none⟩, [], true⟩ := by
  refine run_eq ?_
  unfold m_need_table
  walk_at "dl"
  refine cp1 (is_table_value_ok hw hL) ?_
  rw [h]
  walk_at "dl"
  exact ⟨rfl, rfl⟩
theorem bounds_err1 {L k : Nat} {T U : D} (hw : Wf L k T) (hL : L ≤ 1000) (h : tabB T = false) : f_need_bounds [.d T, .d U] = ⟨.error ⟨"InvalidTable", none⟩, [], true⟩ := by
  refine run_eq ?_
  unfold m_need_bounds
  walk_at "dl"
  refine cx1 (need_err hw hL h) ?_
  walk_at "dl"
  exact ⟨rfl, rfl⟩
theorem bounds_err2 {L k n : Nat} {T : List (List Int)} {U : D} (hT : Tb n T) (hw : Wf L k U) (hL : L ≤ 1000) (h : tabB U = false) : f_need_bounds [.d (tabT T), .d U] = ⟨.error ⟨"InvalidTable", none⟩, [], true⟩ := by
  refine run_eq ?_
  unfold m_need_bounds
  walk_at "dl"
  refine cp1 hT.need ?_
  walk_at "dl"
  refine cx1 (need_err hw hL h) ?_
  walk_at "dl"
  exact ⟨rfl, rfl⟩
theorem bounds_both {n : Nat} {L H : List (List Int)} (hL : Tb n L) (hH : Tb n H) {v : Except Exc SV} (hv : Lo n L H ∧ v = .ok (.d .non) ∨ ¬ Lo n L H ∧ v = .error ⟨"InvalidTable", none⟩) : f_need_bounds [.d (tabT L), .d (tabT H)] = ⟨v, [], true⟩ := by
  refine run_eq ?_
  unfold m_need_bounds
  walk_at "dl"
  refine cp1 hL.need ?_
  walk_at "dl"
  refine cp1 hH.need ?_
  unfold tabT
  walk_at "dl"
  rw [List.length_map, List.length_map, hL.l, hH.l, decide_eq_true rfl]
  walk_at "dl"
  have row : ∀ {i : Nat} {x y : List Int}, L[i]? = some x → H[i]? = some y → i < n ∧ x.length = n ∧ y.length = n ∧ ∀ (j : Nat) (a b : Int), x[j]? = some a → y[j]? = some b → j < n ∧ a = en L i j ∧ b = en H i j := fun {i x y} h1 h2 => by
    have hi : i < n := by have := (List.getElem?_eq_some_iff.mp h1).1; have := hL.l; omega
    have lx := hL.lr x (List.mem_of_getElem? h1)
    have ly := hH.lr y (List.mem_of_getElem? h2)
    refine ⟨hi, lx, ly, fun j a b ha hb => ?_⟩
    have hj : j < n := by have := (List.getElem?_eq_some_iff.mp ha).1; omega
    unfold en
    simp only [List.getD_eq_getElem?_getD, h1, h2, Option.getD_some, ha, hb]
    exact ⟨hj, by simp⟩
  by_cases hlo : Lo n L H
  · obtain rfl : v = .ok (.d .non) := by rcases hv with h | h; exact h.2; exact absurd hlo h.1
    refine ws_forI (fun i e => ∃ a2 a3, e = [some (.d (.tup (L.map rowT))), some (.d (.tup (H.map rowT))), a2, a3, none, none]) ⟨_, _, rfl⟩ (fun i d e hd hI => ?_) (fun e hI => ?_)
    · obtain ⟨a2, a3, rfl⟩ := hI
      obtain ⟨x, y, hx, hy, rfl⟩ := zipD_getT hd
      obtain ⟨hi, lx, ly, q⟩ := row hx hy
      refine ⟨_, rfl, bounds_row rfl (by have := hL.n3; omega) (.inr ⟨?_, ?_⟩)⟩
      · rintro ⟨j, a, b, ha, hb, hab⟩
        obtain ⟨hj, rfl, rfl⟩ := q j a b ha hb
        have := hlo i j hi hj
        omega
      · walk_at "dl"
        exact ⟨_, _, rfl⟩
    · obtain ⟨a2, a3, rfl⟩ := hI
      walk_at "dl"
      refine ⟨?_, ?_⟩ <;> first | rfl | trivial
  · obtain rfl : v = .error ⟨"InvalidTable", none⟩ := by rcases hv with h | h; exact absurd h.1 hlo; exact h.2
    refine ws_forI (fun k e => ∃ a2 a3, e = [some (.d (.tup (L.map rowT))), some (.d (.tup (H.map rowT))), a2, a3, none, none] ∧ ∀ i j, i < k → i < n → j < n → en L i j ≤ en H i j) ⟨_, _, rfl, fun i j h => absurd h (by omega)⟩ (fun i d e hd hI => ?_) (fun e hI => ?_)
    · obtain ⟨a2, a3, rfl, hk⟩ := hI
      obtain ⟨x, y, hx, hy, rfl⟩ := zipD_getT hd
      obtain ⟨hi, lx, ly, q⟩ := row hx hy
      by_cases c : ∃ (j : Nat) (a b : Int), x[j]? = some a ∧ y[j]? = some b ∧ b < a
      · refine ⟨_, rfl, bounds_row rfl (by have := hL.n3; omega) (.inl ⟨c, ?_⟩)⟩
        walk_at "dl"
        refine ⟨?_, ?_⟩ <;> first | rfl | trivial
      · refine ⟨_, rfl, bounds_row rfl (by have := hL.n3; omega) (.inr ⟨c, ?_⟩)⟩
        walk_at "dl"
        refine ⟨_, _, rfl, fun i' j h1 h2 h3 => ?_⟩
        by_cases z : i' < i
        · exact hk i' j z h2 h3
        · obtain rfl : i' = i := by omega
          obtain ⟨ha, hb⟩ := (⟨List.getElem?_eq_getElem (by omega), List.getElem?_eq_getElem (by omega)⟩ : x[j]? = some (x[j]'(by omega)) ∧ y[j]? = some (y[j]'(by omega)))
          obtain ⟨_, e1, e2⟩ := q j _ _ ha hb
          have : ¬ (y[j]'(by omega) < x[j]'(by omega)) := fun z => c ⟨j, _, _, ha, hb, z⟩
          rw [← e1, ← e2]
          omega
    · obtain ⟨a2, a3, rfl, hk⟩ := hI
      refine absurd (fun i j hi hj => hk i j ?_ hi hj) hlo
      rw [zipD_len (by simp [hL.l, hH.l]), List.length_map, hL.l]
      exact hi
/-! what the two functions tell -/
def gS (T : D) : Bool := match (f_is_single_value [.d T]).val with
  | .ok (.d (.bl b)) => b
  | _ => false
theorem gS_mat {n : Nat} {M : Nat → Nat → Int} (h1 : 1 ≤ n) (hn : n ≤ 3) (h : Small n M) : gS (mat n M) = sg n M := by
  unfold gS
  rw [(mat_single h1 hn h).1]
abbrev endsT (L H : List (List Int)) : List D := (cpD [[]] (chs L H)).map .tup
theorem bad_ok {n : Nat} {L H : List (List Int)} (hL : Tb n L) (hH : Tb n H) : f_bad_table [.d (tabT L), .d (tabT H)] = ⟨.ok (.d (firstBad gS (endsT L H))), [], true⟩ :=
  bad_table_ok (sq_of hL hH) gS fun T hT => by
    obtain ⟨M, rfl, hM⟩ := tab_of (sq_of hL hH) hL.small hH.small hT
    rw [gS_mat hL.n1 hL.n3 hM]
    exact (mat_single hL.n1 hL.n3 hM).1
theorem first_bad_ok {n : Nat} {L H : List (List Int)} (hL : Tb n L) (hH : Tb n H) (h : Lo n L H) : f_first_bad [.d (tabT L), .d (tabT H)] = ⟨.ok (.d (firstBad gS (endsT L H))), [], true⟩ := by
  refine run_eq ?_
  unfold m_first_bad
  walk_at "dl"
  refine cp2 (bounds_both hL hH (.inl ⟨h, rfl⟩)) ?_
  walk_at "dl"
  refine cp2 (bad_ok hL hH) ?_
  walk_at "dl"
  exact ⟨rfl, rfl⟩
theorem all_single_ok {n : Nat} {L H : List (List Int)} (hL : Tb n L) (hH : Tb n H) (h : Lo n L H) : f_all_single [.d (tabT L), .d (tabT H)] = ⟨.ok (.d (.bl (nonB (firstBad gS (endsT L H))))), [], true⟩ := by
  refine run_eq ?_
  unfold m_all_single
  walk_at "dl"
  refine cp2 (bounds_both hL hH (.inl ⟨h, rfl⟩)) ?_
  walk_at "dl"
  refine cp2 (bad_ok hL hH) ?_
  walk_at "dl"
  exact ⟨rfl, rfl⟩
/-- errors of both -/
theorem two_err {f : Fn} (hf : f = f_all_single ∨ f = f_first_bad) {T U : D} (h : f_need_bounds [.d T, .d U] = ⟨.error ⟨"InvalidTable", none⟩, [], true⟩) : f [.d T, .d U] = ⟨.error ⟨"InvalidTable", none⟩, [], true⟩ := by
  rcases hf with z | z <;> subst z <;> refine run_eq ?_
  · unfold m_all_single
    walk_at "dl"
    refine cx2 h ?_
    walk_at "dl"
    exact ⟨rfl, rfl⟩
  · unfold m_first_bad
    walk_at "dl"
    refine cx2 h ?_
    walk_at "dl"
    exact ⟨rfl, rfl⟩
/-! draws -/
section
variable {e : Ev} {X : Exc → Ev → Prop} {QV : SV → Ev → Prop} {i t b : Nat} {xs : List D}
theorem wp_pick {size : Int} (he : e[i]? = some (some (.own t xs))) (hd : DeckOk b xs) (h0 : 0 < size) (hl : size < 1073741824) (hb : b < 1048576) (q : ∀ r ys, 0 ≤ r → r < size → DeckOk (b + 1) ys → QV (.d (.int r)) (e.set i (some (.own t ys)))) : CP f__law_pick [.s i, .v (.int size)] e QV X := by
  obtain ⟨r, ys, ho, r0, r1, hk⟩ := pick h0 hl hd hb
  exact cs2 he ho (q r ys r0 r1 hk)
theorem wp_one {opts : List D} (he : e[i]? = some (some (.own t xs))) (hd : DeckOk b xs) (h0 : 0 < opts.length) (hl : opts.length < 1000) (hb : b < 1048576) (q : ∀ d ys, d ∈ opts → DeckOk (b + 1) ys → QV (.d d) (e.set i (some (.own t ys)))) : CP f__law_one [.s i, .v (.lst opts)] e QV X := by
  obtain ⟨d, ys, hm, ho, hk⟩ := one_ok h0 hl hd hb
  exact cs2 he ho (q d ys hm hk)
end
theorem deck8 (c : Int) : ∃ ys, f__law_deck [.d (.int c), .d (.int 8)] = ⟨.ok (.own 0 ys), [], true⟩ ∧ DeckOk 8 ys := by
  by_cases h : 1000000000000000000 ≤ c
  · refine ⟨[.int (c - 1000000000000000000), .int (c.fmod 2147483579), .int 8], ?_, _, _, _, rfl, Int.fmod_nonneg_of_pos _ (by decide), Int.lt_trans (Int.fmod_lt_of_pos _ (by decide)) (by decide), by decide, by decide⟩
    refine run_eq ?_
    unfold m__law_deck
    walk_at "dl"
    refine ws_ifT (decide_eq_true h) ?_
    walk_at "dl"
    refine wp_mod (by decide) ?_
    walk_at "dl"
    exact ⟨rfl, rfl⟩
  · refine ⟨[.int 0, .int (c.fmod 2147483579), .int 8], ?_, _, _, _, rfl, Int.fmod_nonneg_of_pos _ (by decide), Int.lt_trans (Int.fmod_lt_of_pos _ (by decide)) (by decide), by decide, by decide⟩
    refine run_eq ?_
    unfold m__law_deck
    walk_at "dl"
    refine ws_ifF (decide_eq_false h) ?_
    walk_at "dl"
    refine wp_mod (by decide) ?_
    walk_at "dl"
    exact ⟨rfl, rfl⟩
end K08
set_option maxHeartbeats 4000000
namespace K08
open PySem PySem.Spec L2 DL
-- DLMAC
local macro_rules | `(tactic| walk_at "dl1") => `(tactic| with_reducible first
  | refine ws_seq ?_ | refine seq_n ?_ | refine seq_r ?_ | refine seq_x ?_ | refine ws_asg ?_ | refine ws_ret ?_ | refine ws_if ?_ | refine ws_ift ?_ | refine ws_iff ?_ | refine ws_next ?_
  | refine wp_const ?_ | refine wp_ret ?_ | refine wp_yes ?_ | refine wp_toD ?_ | refine td_d ?_ | refine td_o ?_ | refine wp_ofD ?_ | refine wp_bin2 ?_ | refine wp_un1 ?_ | refine wp_nilA ?_ | refine wp_consA ?_ | refine wp_tup ?_ | refine wp_lst ?_
  | refine wp_tB ?_ | refine tbP ?_ | refine wp_notT ?_ | refine wp_andT ?_ | refine wp_orT ?_ | refine wp_iteM ?_ | refine wp_andE ?_ | refine wp_orE ?_ | refine wp_notE ?_ | refine wp_ift ?_ | refine wp_iff ?_ | refine wp_chain2 ?_
  | refine wp_call ?_ | refine wp_nilV ?_ | refine wp_consV ?_ | refine wp_isi ?_ | refine wp_isi2 ?_ | refine wp_lc ?_ | refine wp_seqI ?_ | refine wp_slO ?_ | refine wp_noPart ?_ | refine wp_part ?_ | refine wp_intO ?_ | refine wp_slT ?_ | refine wp_slL ?_
  | refine wp_neg ?_ | refine wp_sub ?_ | refine wp_add ?_ | refine wp_cmp ?_ | refine wp_eqI ?_ | refine wp_neI ?_ | refine wp_is ?_ | refine wp_isNot ?_ | refine wp_lenT ?_ | refine wp_lenL ?_
  | refine wp_absF ?_ | refine wp_intF ?_ | refine wp_intB ?_ | refine wp_allM ?_ | refine wp_anyM ?_ | refine wp_tupT ?_ | refine wp_tupL ?_ | refine wp_listT ?_ | refine wp_listL ?_ | refine wp_max ?_ | refine wp_min ?_
  | refine ws_asgT ?_ | refine ws_par ?_ | refine ws_par3 ?_ | refine ws_parO ?_ | refine ws_retN ?_ | refine ws_drop ?_ | refine ws_brk ?_ | refine ws_cont ?_ | refine ws_raise ?_ | refine ws_for ?_ | refine ws_for0 ?_ | refine forP_n ?_ | refine forP_r ?_ | refine lp_n ?_ | refine lp_c ?_ | refine lp_b ?_ | refine lp_r ?_ | refine lp_x ?_ | refine ws_while ?_
  | refine itemsT ?_ | refine itemsL ?_ | refine parP ?_ | refine par3P ?_ | refine ws_put ?_ | refine wp_zipL ?_ | refine wp_join ?_ | refine joinP ?_ | refine wp_split ?_ | refine splitP ?_
  | refine wp_try ?_ | refine tryV_d ?_ | refine tryV_o ?_ | refine wp_bnd ?_ | refine ws_bnd ?_)
local macro_rules | `(tactic| walk_at "dl2") => `(tactic| first
  | ((with_reducible apply wp_var); · exact rfl)
  | ((with_reducible apply wp_varO); · exact rfl)
  | ((with_reducible apply wp_take); · exact rfl)
  | ((with_reducible apply wp_takeO); · exact rfl)
  | ((with_reducible apply lenP); · (show _ ≤ (16777216 : Nat); simp; done))
  | ((with_reducible apply wp_lenD); · exact rfl)
  | ((with_reducible apply wp_lenV); · exact rfl)
  | ((with_reducible apply wp_ixV); · exact rfl)
  | ((with_reducible apply wp_atD); · exact rfl)
  | ((with_reducible apply wp_consL); · exact rfl)
  | ((with_reducible apply wp_in); · exact rfl
     · exact rfl)
  | ((with_reducible apply fin_d); · exact rfl)
  | ((with_reducible apply fin_o); · exact rfl)
  | ((with_reducible apply fin_n); · exact rfl)
  | ((with_reducible apply fin_x); · exact rfl)
  | ((with_reducible apply wp_zip); · exact rfl
     · exact rfl)
  | ((with_reducible apply wp_enum); · exact rfl)
  | ((with_reducible apply wp_eq); · exact rfl)
  | ((with_reducible apply wp_ne); · exact rfl)
  | ((with_reducible apply wp_pow); · decide)
  | ((with_reducible apply wp_at); · exact rfl
     · exact rfl)
  | ((with_reducible apply wp_atS); · exact rfl
     · exact rfl)
  | ((with_reducible apply wp_isX); · exact rfl)
  | ((with_reducible apply wp_addL); · (show _ ≤ (16777216 : Nat); first | (simp; done) | (simp; omega) | omega))
  | ((with_reducible apply wp_addT); · (show _ ≤ (16777216 : Nat); first | (simp; done) | (simp; omega) | omega))
  | ((with_reducible apply plainP); · first | exact rfl | assumption)
  | ((with_reducible apply asgP); · exact rfl)
  | ((with_reducible apply someP); · exact rfl)
  | ((with_reducible apply ws_app); · exact rfl)
  | ((with_reducible apply appP); · exact rfl
     · (show _ < (16777216 : Nat); first | (simp; done) | (simp; omega) | omega))
  | ((with_reducible apply ws_putAt); · exact rfl
     · exact rfl)
  | ((with_reducible apply ws_forC); · exact rfl)
  | ((with_reducible apply wp_lcVO); · exact rfl
     · exact rfl)
  | ((with_reducible apply wp_lcVD); · exact rfl)
  | ((with_reducible apply wp_splitF); · exact rfl)
  | ((with_reducible apply wp_joinF); · exact rfl
     · exact rfl
     · decide)
  | ((with_reducible apply ws_ifT); · exact rfl)
  | ((with_reducible apply ws_ifF); · exact rfl)
  | ((with_reducible apply wp_ifT); · exact rfl)
  | ((with_reducible apply wp_ifF); · exact rfl))
local macro_rules | `(tactic| walk_at "dl") => `(tactic| repeat (first | walk_at "dl1" | walk_at "dl2"))
-- DLEND
def absI (i : Int) : Int := if i < 0 then -i else i
theorem ints_map (xs : List Int) : intsOf (xs.map D.int) = some xs := by
  induction xs with
  | nil => rfl
  | cons x r ih =>
    rw [List.map_cons]
    show (intsOf (r.map D.int)).map (x :: ·) = _
    rw [ih]
    rfl
theorem sum_bound : ∀ {xs : List Int} {c : Int}, (∀ x ∈ xs, 0 ≤ x ∧ x ≤ c) → 0 ≤ xs.sum ∧ xs.sum ≤ xs.length * c
  | [], c, _ => by simp
  | x :: r, c, h => by
    have h1 := h x List.mem_cons_self
    have h2 := sum_bound (xs := r) (c := c) fun y hy => h y (List.mem_cons_of_mem _ hy)
    rw [List.sum_cons, List.length_cons]
    have e : ((r.length + 1 : Nat) : Int) * c = r.length * c + c := by
      rw [Int.natCast_add, Int.add_mul]
      simp
    omega
theorem sum_ge : ∀ {xs : List Int} {x : Int}, (∀ x ∈ xs, 0 ≤ x) → x ∈ xs → x ≤ xs.sum
  | y :: r, x, h, hm => by
    have h1 := h y List.mem_cons_self
    have h3 : ∀ z ∈ r, 0 ≤ z := fun z hz => h z (List.mem_cons_of_mem _ hz)
    rw [List.sum_cons]
    rcases List.mem_cons.mp hm with z | z
    · subst z
      have : 0 ≤ r.sum := by
        clear h1 h hm
        induction r with
        | nil => simp
        | cons a r ih =>
          rw [List.sum_cons]
          have := h3 a List.mem_cons_self
          have := ih fun z hz => h3 z (List.mem_cons_of_mem _ hz)
          omega
      omega
    · have := sum_ge h3 z
      omega
theorem a_single_ok {b n : Nat} {xs : List D} (h1 : 1 ≤ n) (hn : n ≤ 3) (hd : DeckOk b xs) (hb : b + 20 < 1048576) :
    ∃ A ys, f__law_a_single [.own 1 xs, .d (.int (n : Nat))] = ⟨.ok (.d (tabT A)), ys, true⟩ ∧ Tb n A ∧ DeckOk (b + 12) ys := by
  suffices h : ∃ v out, f__law_a_single [.own 1 xs, .d (.int (n : Nat))] = ⟨v, out, true⟩ ∧ ∃ A, v = .ok (.d (tabT A)) ∧ Tb n A ∧ DeckOk (b + 12) out by
    obtain ⟨v, out, h1, A, rfl, h2, h3⟩ := h
    exact ⟨A, out, h1, h2, h3⟩
  refine run_fs ?_
  unfold m__law_a_single
  walk_at "dl"
  refine wp_range (by omega) ?_
  walk_at "dl"
  rw [Int.toNat_natCast]
  refine ws_forI (fun i e => ∃ dk R a3 a4, e = [some (.own 1 dk), some (.d (.int (n : Nat))), some (.own 0 (R.map rowT)), a3, a4, none, none] ∧ DeckOk (b + 4 * i) dk ∧ R.length = i ∧ i ≤ n ∧ ∀ r ∈ R, r.length = n ∧ ∀ x ∈ r, x.natAbs ≤ 9) ⟨xs, [], _, _, rfl, hd, rfl, Nat.zero_le _, fun r hr => by cases hr⟩ (fun i d e hd hI => ?_) (fun e hI => ?_)
  · obtain ⟨dk, R, a3, a4, rfl, hk, hl, _, hR⟩ := hI
    obtain ⟨hi, rfl⟩ := range_get hd
    refine ⟨_, rfl, ?_⟩
    walk_at "dl"
    refine wp_range (by omega) ?_
    walk_at "dl"
    rw [Int.toNat_natCast]
    refine lc_inv (fun j e ys => ∃ dk zs, e = [some (.own 1 dk), some (.d (.int (n : Nat))), some (.own 0 (R.map rowT)), some (.d (.int (i : Nat))), a4, none, none] ∧ DeckOk (b + 4 * i + j) dk ∧ ys = zs.map D.int ∧ zs.length = j ∧ ∀ z ∈ zs, (z : Int).natAbs ≤ 3) (by simp [mx]; omega) ⟨dk, [], rfl, hk, rfl, rfl, fun z hz => by cases hz⟩ (fun j x e ys hx hI => ?_) (fun e2 ys hI hly => ?_)
    · obtain ⟨dk, zs, rfl, hk, rfl, hz, hzs⟩ := hI
      obtain ⟨hj, rfl⟩ := range_get hx
      refine ⟨_, rfl, ?_⟩
      walk_at "dl"
      refine wp_pick rfl hk (by decide) (by decide) (by omega) fun r ds r0 r1 hk2 => ?_
      walk_at "dl"
      refine ⟨ds, zs ++ [r - 3], rfl, hk2, by simp, by simp [hz], fun z hz => ?_⟩
      rcases List.mem_append.mp hz with h | h
      · exact hzs z h
      · rw [List.mem_singleton.mp h]
        omega
    · obtain ⟨dk, zs, rfl, hk, rfl, hz, hzs⟩ := hI
      rw [List.length_map, List.length_range] at hz hk
      walk_at "dl"
      refine lc_m (fun d => match d with
        | .int i => .int (absI i)
        | d => d) (by simp [mx]; omega) (fun d hd => ?_) ?_
      · obtain ⟨v, hv, rfl⟩ := List.mem_map.mp hd
        refine ⟨_, rfl, ?_⟩
        walk_at "dl"
        exact ⟨rfl, rfl⟩
      · refine ⟨by show (4 : Nat) < 7; decide, ?_⟩
        walk_at "dl"
        have em : (zs.map D.int).map (fun d => match d with
            | .int i => D.int (absI i)
            | d => d) = (zs.map absI).map .int := by
          rw [List.map_map, List.map_map]
          rfl
        rw [em]
        refine wp_sumF (ints_map _) ?_
        walk_at "dl"
        obtain ⟨w, hw⟩ : ∃ w, zs[i]? = some w := ⟨zs[i]'(by omega), List.getElem?_eq_getElem (by omega)⟩
        refine wp_atS rfl (at_int hw) ?_
        walk_at "dl"
        refine wp_pick rfl hk (by decide) (by decide) (by omega) fun r ds r0 r1 hk2 => ?_
        walk_at "dl"
        refine ws_putAt (j := i) rfl (by
          rw [ixN_pos (by omega) (by rw [List.length_map]; omega)]
          rfl) ?_
        walk_at "dl"
        have es : ∀ v : Int, (zs.map D.int).set i (.int v) = (zs.set i v).map .int := fun v => by rw [List.map_set]
        rw [es]
        refine ⟨ds, R ++ [zs.set i _], _, _, by rw [List.map_append]; rfl, hk2.mono (by omega), by simp [hl], by omega, fun r hr => ?_⟩
        rcases List.mem_append.mp hr with h | h
        · exact hR r h
        · rw [List.mem_singleton.mp h]
          refine ⟨by rw [List.length_set]; exact hz, fun x hx => ?_⟩
          rcases List.mem_or_eq_of_mem_set hx with h | h
          · have := hzs x h
            omega
          · have ha : ∀ x ∈ zs.map absI, 0 ≤ x ∧ x ≤ 3 := fun x hx => by
              obtain ⟨z, hz, rfl⟩ := List.mem_map.mp hx
              have := hzs z hz
              unfold absI
              split <;> omega
            have q1 := sum_ge (xs := zs.map absI) (x := absI w) (fun x hx => (ha x hx).1) (List.mem_map.mpr ⟨w, List.mem_of_getElem? hw, rfl⟩)
            have q2 : (if w < 0 then -w else w) = absI w := rfl
            rw [q2] at h
            subst h
            split <;> omega
  · obtain ⟨dk, R, a3, a4, rfl, hk, hl, _, hR⟩ := hI
    rw [List.length_map, List.length_range] at hl hk
    walk_at "dl"
    exact ⟨R, rfl, ⟨h1, hn, hl, fun r hr => (hR r hr).1, fun r hr => (hR r hr).2⟩, hk.mono (by omega)⟩
end K08
set_option maxHeartbeats 4000000
namespace K08
open PySem PySem.Spec L2 DL
-- DLMAC
local macro_rules | `(tactic| walk_at "dl1") => `(tactic| with_reducible first
  | refine ws_seq ?_ | refine seq_n ?_ | refine seq_r ?_ | refine seq_x ?_ | refine ws_asg ?_ | refine ws_ret ?_ | refine ws_if ?_ | refine ws_ift ?_ | refine ws_iff ?_ | refine ws_next ?_
  | refine wp_const ?_ | refine wp_ret ?_ | refine wp_yes ?_ | refine wp_toD ?_ | refine td_d ?_ | refine td_o ?_ | refine wp_ofD ?_ | refine wp_bin2 ?_ | refine wp_un1 ?_ | refine wp_nilA ?_ | refine wp_consA ?_ | refine wp_tup ?_ | refine wp_lst ?_
  | refine wp_tB ?_ | refine tbP ?_ | refine wp_notT ?_ | refine wp_andT ?_ | refine wp_orT ?_ | refine wp_iteM ?_ | refine wp_andE ?_ | refine wp_orE ?_ | refine wp_notE ?_ | refine wp_ift ?_ | refine wp_iff ?_ | refine wp_chain2 ?_
  | refine wp_call ?_ | refine wp_nilV ?_ | refine wp_consV ?_ | refine wp_isi ?_ | refine wp_isi2 ?_ | refine wp_lc ?_ | refine wp_seqI ?_ | refine wp_slO ?_ | refine wp_noPart ?_ | refine wp_part ?_ | refine wp_intO ?_ | refine wp_slT ?_ | refine wp_slL ?_
  | refine wp_neg ?_ | refine wp_sub ?_ | refine wp_add ?_ | refine wp_cmp ?_ | refine wp_eqI ?_ | refine wp_neI ?_ | refine wp_is ?_ | refine wp_isNot ?_ | refine wp_lenT ?_ | refine wp_lenL ?_
  | refine wp_absF ?_ | refine wp_intF ?_ | refine wp_intB ?_ | refine wp_allM ?_ | refine wp_anyM ?_ | refine wp_tupT ?_ | refine wp_tupL ?_ | refine wp_listT ?_ | refine wp_listL ?_ | refine wp_max ?_ | refine wp_min ?_
  | refine ws_asgT ?_ | refine ws_par ?_ | refine ws_par3 ?_ | refine ws_parO ?_ | refine ws_retN ?_ | refine ws_drop ?_ | refine ws_brk ?_ | refine ws_cont ?_ | refine ws_raise ?_ | refine ws_for ?_ | refine ws_for0 ?_ | refine forP_n ?_ | refine forP_r ?_ | refine lp_n ?_ | refine lp_c ?_ | refine lp_b ?_ | refine lp_r ?_ | refine lp_x ?_ | refine ws_while ?_
  | refine itemsT ?_ | refine itemsL ?_ | refine parP ?_ | refine par3P ?_ | refine ws_put ?_ | refine wp_zipL ?_ | refine wp_join ?_ | refine joinP ?_ | refine wp_split ?_ | refine splitP ?_
  | refine wp_try ?_ | refine tryV_d ?_ | refine tryV_o ?_ | refine wp_bnd ?_ | refine ws_bnd ?_)
local macro_rules | `(tactic| walk_at "dl2") => `(tactic| first
  | ((with_reducible apply wp_var); · exact rfl)
  | ((with_reducible apply wp_varO); · exact rfl)
  | ((with_reducible apply wp_take); · exact rfl)
  | ((with_reducible apply wp_takeO); · exact rfl)
  | ((with_reducible apply lenP); · (show _ ≤ (16777216 : Nat); simp; done))
  | ((with_reducible apply wp_lenD); · exact rfl)
  | ((with_reducible apply wp_lenV); · exact rfl)
  | ((with_reducible apply wp_ixV); · exact rfl)
  | ((with_reducible apply wp_atD); · exact rfl)
  | ((with_reducible apply wp_consL); · exact rfl)
  | ((with_reducible apply wp_in); · exact rfl
     · exact rfl)
  | ((with_reducible apply fin_d); · exact rfl)
  | ((with_reducible apply fin_o); · exact rfl)
  | ((with_reducible apply fin_n); · exact rfl)
  | ((with_reducible apply fin_x); · exact rfl)
  | ((with_reducible apply wp_zip); · exact rfl
     · exact rfl)
  | ((with_reducible apply wp_enum); · exact rfl)
  | ((with_reducible apply wp_eq); · exact rfl)
  | ((with_reducible apply wp_ne); · exact rfl)
  | ((with_reducible apply wp_pow); · decide)
  | ((with_reducible apply wp_at); · exact rfl
     · exact rfl)
  | ((with_reducible apply wp_atS); · exact rfl
     · exact rfl)
  | ((with_reducible apply wp_isX); · exact rfl)
  | ((with_reducible apply wp_addL); · (show _ ≤ (16777216 : Nat); first | (simp; done) | (simp; omega) | omega))
  | ((with_reducible apply wp_addT); · (show _ ≤ (16777216 : Nat); first | (simp; done) | (simp; omega) | omega))
  | ((with_reducible apply plainP); · first | exact rfl | assumption)
  | ((with_reducible apply asgP); · exact rfl)
  | ((with_reducible apply someP); · exact rfl)
  | ((with_reducible apply ws_app); · exact rfl)
  | ((with_reducible apply appP); · exact rfl
     · (show _ < (16777216 : Nat); first | (simp; done) | (simp; omega) | omega))
  | ((with_reducible apply ws_putAt); · exact rfl
     · exact rfl)
  | ((with_reducible apply ws_forC); · exact rfl)
  | ((with_reducible apply wp_lcVO); · exact rfl
     · exact rfl)
  | ((with_reducible apply wp_lcVD); · exact rfl)
  | ((with_reducible apply wp_splitF); · exact rfl)
  | ((with_reducible apply wp_joinF); · exact rfl
     · exact rfl
     · decide)
  | ((with_reducible apply ws_ifT); · exact rfl)
  | ((with_reducible apply ws_ifF); · exact rfl)
  | ((with_reducible apply wp_ifT); · exact rfl)
  | ((with_reducible apply wp_ifF); · exact rfl))
local macro_rules | `(tactic| walk_at "dl") => `(tactic| repeat (first | walk_at "dl1" | walk_at "dl2"))
-- DLEND
def lowL (P : List (List (Int × Int))) : List (List Int) := P.map fun r => r.map (·.1)
def highL (P : List (List (Int × Int))) : List (List Int) := P.map fun r => r.map (·.2)
structure PP (n i : Nat) (P : List (List (Int × Int))) : Prop where
  l : P.length = i
  r : ∀ r ∈ P, r.length = n ∧ ∀ q ∈ r, -9 ≤ q.1 ∧ q.1 ≤ q.2 ∧ q.2 ≤ 9
theorem PP.ok {n : Nat} {P : List (List (Int × Int))} (h : PP n n P) (h1 : 1 ≤ n) (hn : n ≤ 3) : Tb n (lowL P) ∧ Tb n (highL P) ∧ Lo n (lowL P) (highL P) := by
  refine ⟨⟨h1, hn, by unfold lowL; rw [List.length_map, h.l], fun r hr => ?_, fun r hr x hx => ?_⟩, ⟨h1, hn, by unfold highL; rw [List.length_map, h.l], fun r hr => ?_, fun r hr x hx => ?_⟩, fun i j hi hj => ?_⟩
  · obtain ⟨q, hq, rfl⟩ := List.mem_map.mp hr
    rw [List.length_map]
    exact (h.r q hq).1
  · obtain ⟨q, hq, rfl⟩ := List.mem_map.mp hr
    obtain ⟨z, hz, rfl⟩ := List.mem_map.mp hx
    have := (h.r q hq).2 z hz
    omega
  · obtain ⟨q, hq, rfl⟩ := List.mem_map.mp hr
    rw [List.length_map]
    exact (h.r q hq).1
  · obtain ⟨q, hq, rfl⟩ := List.mem_map.mp hr
    obtain ⟨z, hz, rfl⟩ := List.mem_map.mp hx
    have := (h.r q hq).2 z hz
    omega
  · have e1 : P[i]? = some (P[i]'(by have := h.l; omega)) := List.getElem?_eq_getElem _
    have hr := h.r _ (List.mem_of_getElem? e1)
    have e2 : (P[i]'(by have := h.l; omega))[j]? = some ((P[i]'(by have := h.l; omega))[j]'(by omega)) := List.getElem?_eq_getElem _
    have hq := hr.2 _ (List.mem_of_getElem? e2)
    unfold en lowL highL
    simp only [List.getD_eq_getElem?_getD, List.getElem?_map, e1, Option.map_some, Option.getD_some, e2]
    exact hq.2.1
theorem law_bounds_ok {b n : Nat} {xs : List D} (h1 : 1 ≤ n) (hn : n ≤ 3) (hd : DeckOk b xs) (hb : b + 100 < 1048576) :
    ∃ P ys, f__law_bounds [.own 1 xs, .d (.int (n : Nat))] = ⟨.ok (.d (.tup [tabT (lowL P), tabT (highL P)])), ys, true⟩ ∧ PP n n P ∧ DeckOk (b + 40) ys := by
  suffices h : ∃ v out, f__law_bounds [.own 1 xs, .d (.int (n : Nat))] = ⟨v, out, true⟩ ∧ ∃ P, v = .ok (.d (.tup [tabT (lowL P), tabT (highL P)])) ∧ PP n n P ∧ DeckOk (b + 40) out by
    obtain ⟨v, out, h1, P, rfl, h2, h3⟩ := h
    exact ⟨P, out, h1, h2, h3⟩
  obtain ⟨A, ds, ha, hA, hk⟩ := a_single_ok h1 hn hd (by omega)
  refine run_fs ?_
  unfold m__law_bounds
  walk_at "dl"
  refine cs2 rfl ha ?_
  unfold tabT
  walk_at "dl"
  refine ws_forI (fun i e => ∃ dk P a5 a6 a7 a8 a9 a10, e = [some (.own 1 dk), some (.d (.int (n : Nat))), some (.d (.tup (A.map rowT))), some (.own 0 ((lowL P).map rowT)), some (.own 0 ((highL P).map rowT)), a5, a6, a7, a8, a9, a10] ∧ DeckOk (b + 12 + 6 * i) dk ∧ PP n i P ∧ i ≤ n) ⟨ds, [], _, _, _, _, _, _, rfl, hk, ⟨rfl, fun r hr => by cases hr⟩, Nat.zero_le _⟩ (fun i d e hd hI => ?_) (fun e hI => ?_)
  · obtain ⟨dk, P, a5, a6, a7, a8, a9, a10, rfl, hk, hP, _⟩ := hI
    rw [List.getElem?_map] at hd
    obtain ⟨r, hr, rfl⟩ := Option.map_eq_some_iff.mp hd
    have hi : i < n := by have := (List.getElem?_eq_some_iff.mp hr).1; have := hA.l; omega
    have lr := hA.lr r (List.mem_of_getElem? hr)
    have sr := hA.sm r (List.mem_of_getElem? hr)
    refine ⟨_, rfl, ?_⟩
    unfold rowT
    walk_at "dl"
    refine ws_forI (fun j e => ∃ (dk : List D) (Q : List (Int × Int)) (a8 a9 a10 : Option SV), e = [some (.own 1 dk), some (.d (.int (n : Nat))), some (.d (.tup (A.map rowT))), some (.own 0 ((lowL P).map rowT)), some (.own 0 ((highL P).map rowT)), some (.d (rowT r)), some (.own 0 ((Q.map (·.1)).map .int)), some (.own 0 ((Q.map (·.2)).map .int)), a8, a9, a10] ∧ DeckOk (b + 12 + 6 * i + 2 * j) dk ∧ Q.length = j ∧ j ≤ n ∧ ∀ q ∈ Q, -9 ≤ q.1 ∧ q.1 ≤ q.2 ∧ q.2 ≤ 9) ⟨dk, [], _, _, _, rfl, hk, rfl, Nat.zero_le _, fun q hq => by cases hq⟩ (fun j d e hd hI => ?_) (fun e hI => ?_)
    · obtain ⟨dk, Q, a8, a9, a10, rfl, hk, hQ, _, hq⟩ := hI
      rw [List.getElem?_map] at hd
      obtain ⟨v, hv, rfl⟩ := Option.map_eq_some_iff.mp hd
      have hj : j < n := by have := (List.getElem?_eq_some_iff.mp hv).1; omega
      have sv := sr v (List.mem_of_getElem? hv)
      refine ⟨_, rfl, ?_⟩
      walk_at "dl"
      refine wp_one rfl hk (by decide) (by decide) (by omega) fun x ds hx hk2 => ?_
      walk_at "dl"
      refine wp_one rfl hk2 (by decide) (by decide) (by omega) fun y dt hy hk3 => ?_
      obtain ⟨xv, rfl, x0, x1⟩ : ∃ xv : Int, x = .int xv ∧ 0 ≤ xv ∧ xv ≤ 4 := by
        simp only [List.mem_cons, List.not_mem_nil, or_false] at hx
        rcases hx with h | h | h | h | h <;> exact ⟨_, h, by decide, by decide⟩
      obtain ⟨yv, rfl, y0, y1⟩ : ∃ yv : Int, y = .int yv ∧ 0 ≤ yv ∧ yv ≤ 4 := by
        simp only [List.mem_cons, List.not_mem_nil, or_false] at hy
        rcases hy with h | h | h | h | h <;> exact ⟨_, h, by decide, by decide⟩
      walk_at "dl"
      refine ⟨dt, Q ++ [(if v - xv > -9 then v - xv else -9, if v + yv < 9 then v + yv else 9)], _, _, _, (by rw [List.map_append, List.map_append, List.map_append, List.map_append]; rfl), hk3.mono (by omega), by simp [hQ], by omega, fun q hq' => ?_⟩
      · rcases List.mem_append.mp hq' with h | h
        · exact hq q h
        · rw [List.mem_singleton.mp h]
          simp only
          split <;> split <;> omega
    · obtain ⟨dk, Q, a8, a9, a10, rfl, hk, hQ, _, hq⟩ := hI
      rw [List.length_map, lr] at hk hQ
      have pl := hP.l
      walk_at "dl"
      refine appP rfl (by unfold lowL mx; simp; omega) ?_
      walk_at "dl"
      refine appP rfl (by unfold highL mx; simp; omega) ?_
      walk_at "dl"
      refine ⟨dk, P ++ [Q], _, _, _, _, _, _, (by unfold lowL highL; rw [List.map_append, List.map_append, List.map_append, List.map_append]; rfl), hk.mono (by omega), ⟨by simp [pl], fun r hr => ?_⟩, by omega⟩
      · rcases List.mem_append.mp hr with h | h
        · exact hP.r r h
        · rw [List.mem_singleton.mp h]
          exact ⟨hQ, hq⟩
  · obtain ⟨dk, P, a5, a6, a7, a8, a9, a10, rfl, hk, hP, _⟩ := hI
    rw [List.length_map, hA.l] at hk hP
    walk_at "dl"
    exact ⟨P, rfl, hP, hk.mono (by omega)⟩
theorem between_ok {b n : Nat} {xs : List D} {P : List (List (Int × Int))} (hP : PP n n P) (h1 : 1 ≤ n) (hn : n ≤ 3) (hd : DeckOk b xs) (hb : b + 100 < 1048576) :
    ∃ M ys, f__law_between [.own 1 xs, .d (tabT (lowL P)), .d (tabT (highL P))] = ⟨.ok (.d (tabT M)), ys, true⟩ ∧ Tb n M ∧ (∀ i j, i < n → j < n → en (lowL P) i j ≤ en M i j ∧ en M i j ≤ en (highL P) i j) ∧ DeckOk (b + 9) ys := by
  suffices h : ∃ v out, f__law_between [.own 1 xs, .d (tabT (lowL P)), .d (tabT (highL P))] = ⟨v, out, true⟩ ∧ ∃ M, v = .ok (.d (tabT M)) ∧ (M.length = n ∧ ∀ (i : Nat) (r : List Int) (p : List (Int × Int)), M[i]? = some r → P[i]? = some p → r.length = n ∧ ∀ (j : Nat) (v : Int) (q : Int × Int), r[j]? = some v → p[j]? = some q → q.1 ≤ v ∧ v ≤ q.2) ∧ DeckOk (b + 9) out by
    obtain ⟨v, out, q1, M, rfl, ⟨q2, q3⟩, q4⟩ := h
    have row : ∀ r ∈ M, ∃ i p, M[i]? = some r ∧ P[i]? = some p := fun r hr => by
      obtain ⟨i, hi, rfl⟩ := List.mem_iff_getElem.mp hr
      exact ⟨i, _, List.getElem?_eq_getElem hi, List.getElem?_eq_getElem (by have := hP.l; omega)⟩
    refine ⟨M, out, q1, ⟨h1, hn, q2, fun r hr => ?_, fun r hr x hx => ?_⟩, fun i j hi hj => ?_, q4⟩
    · obtain ⟨i, p, e1, e2⟩ := row r hr
      exact (q3 i r p e1 e2).1
    · obtain ⟨i, p, e1, e2⟩ := row r hr
      obtain ⟨l, f⟩ := q3 i r p e1 e2
      obtain ⟨lp, fp⟩ := hP.r p (List.mem_of_getElem? e2)
      obtain ⟨j, hj, rfl⟩ := List.mem_iff_getElem.mp hx
      have e3 : p[j]? = some (p[j]'(by omega)) := List.getElem?_eq_getElem _
      have g := f j _ _ (List.getElem?_eq_getElem hj) e3
      have g2 := fp _ (List.mem_of_getElem? e3)
      omega
    · have e1 : M[i]? = some (M[i]'(by omega)) := List.getElem?_eq_getElem _
      have e2 : P[i]? = some (P[i]'(by have := hP.l; omega)) := List.getElem?_eq_getElem _
      obtain ⟨l, f⟩ := q3 i _ _ e1 e2
      obtain ⟨lp, fp⟩ := hP.r _ (List.mem_of_getElem? e2)
      have e3 : (P[i]'(by have := hP.l; omega))[j]? = some ((P[i]'(by have := hP.l; omega))[j]'(by omega)) := List.getElem?_eq_getElem _
      have e4 : (M[i]'(by omega))[j]? = some ((M[i]'(by omega))[j]'(by omega)) := List.getElem?_eq_getElem _
      have g := f j _ _ e4 e3
      unfold en lowL highL
      simp only [List.getD_eq_getElem?_getD, List.getElem?_map, e1, e2, e3, e4, Option.map_some, Option.getD_some]
      exact g
  obtain ⟨tL, tH, lo⟩ := hP.ok h1 hn
  refine run_fs ?_
  unfold m__law_between tabT
  walk_at "dl"
  refine ws_forI (fun i e => ∃ dk M a4 a5, e = [some (.own 1 dk), some (.d (.tup ((lowL P).map rowT))), some (.d (.tup ((highL P).map rowT))), some (.own 0 (M.map rowT)), a4, a5, none, none] ∧ DeckOk (b + 3 * i) dk ∧ M.length = i ∧ i ≤ n ∧ ∀ (i : Nat) (r : List Int) (p : List (Int × Int)), M[i]? = some r → P[i]? = some p → r.length = n ∧ ∀ (j : Nat) (v : Int) (q : Int × Int), r[j]? = some v → p[j]? = some q → q.1 ≤ v ∧ v ≤ q.2) ⟨xs, [], _, _, rfl, hd, rfl, Nat.zero_le _, fun i r p h => by simp at h⟩ (fun i d e hd hI => ?_) (fun e hI => ?_)
  · obtain ⟨dk, M, a4, a5, rfl, hk, hM, _, hg⟩ := hI
    obtain ⟨x, y, hx, hy, rfl⟩ := zipD_getT hd
    unfold lowL at hx
    unfold highL at hy
    rw [List.getElem?_map] at hx hy
    obtain ⟨p, hp, rfl⟩ := Option.map_eq_some_iff.mp hx
    obtain ⟨p2, hp2, rfl⟩ := Option.map_eq_some_iff.mp hy
    rw [hp] at hp2
    obtain rfl := Option.some.inj hp2
    have hi : i < n := by have := (List.getElem?_eq_some_iff.mp hp).1; have := hP.l; omega
    obtain ⟨lp, fp⟩ := hP.r p (List.mem_of_getElem? hp)
    refine ⟨_, rfl, ?_⟩
    unfold rowT
    walk_at "dl"
    refine lc_inv (fun j e ys => ∃ dk zs, e = [some (.own 1 dk), some (.d (.tup ((lowL P).map rowT))), some (.d (.tup ((highL P).map rowT))), some (.own 0 (M.map rowT)), some (.d (rowT (p.map (·.1)))), some (.d (rowT (p.map (·.2)))), none, none] ∧ DeckOk (b + 3 * i + j) dk ∧ ys = zs.map D.int ∧ zs.length = j ∧ ∀ (k : Nat) (v : Int) (q : Int × Int), zs[k]? = some v → p[k]? = some q → q.1 ≤ v ∧ v ≤ q.2) (by rw [zipD_len (by simp)]; simp [mx]; omega) ⟨dk, [], rfl, hk, rfl, rfl, fun k v q h => by simp at h⟩ (fun j z e ys hz hI => ?_) (fun e2 ys hI hly => ?_)
    · obtain ⟨dk, zs, rfl, hk, rfl, hz2, hzs⟩ := hI
      obtain ⟨u, v, hu, hv, rfl⟩ := zipD_get hz
      rw [List.getElem?_map] at hu hv
      obtain ⟨q, hq, rfl⟩ := Option.map_eq_some_iff.mp hu
      rw [hq] at hv
      obtain rfl := Option.some.inj hv
      have hj : j < n := by have := (List.getElem?_eq_some_iff.mp hq).1; omega
      have bq := fp q (List.mem_of_getElem? hq)
      obtain ⟨qa, qb⟩ := q
      simp only at bq
      refine ⟨_, rfl, ?_⟩
      walk_at "dl"
      simp only
      refine wp_pick rfl hk (by omega) (by omega) (by omega) fun r ds r0 r1 hk2 => ?_
      walk_at "dl"
      refine ⟨ds, zs ++ [qa + r], rfl, hk2, by simp, by simp [hz2], fun k v q' hv hq' => ?_⟩
      by_cases hkl : k < zs.length
      · rw [List.getElem?_append_left hkl] at hv
        exact hzs k v q' hv hq'
      · have hkk : k = zs.length := by
          have := (List.getElem?_eq_some_iff.mp hv).1
          simp at this
          omega
        subst hkk
        rw [List.getElem?_append_right (by omega)] at hv
        have ev : qa + r = v := by simpa using hv
        rw [hz2, hq] at hq'
        obtain rfl := Option.some.inj hq'
        simp only
        omega
    · obtain ⟨dk, zs, rfl, hk, rfl, hz2, hzs⟩ := hI
      have zl : (zipD ((p.map (·.1)).map D.int) ((p.map (·.2)).map D.int)).length = n := by rw [zipD_len (by simp)]; simp [lp]
      rw [zl] at hz2 hk
      walk_at "dl"
      refine ⟨dk, M ++ [zs], _, _, by rw [List.map_append]; rfl, hk.mono (by omega), by simp [hM], by omega, fun k r p' hr hp' => ?_⟩
      by_cases hkl : k < M.length
      · rw [List.getElem?_append_left hkl] at hr
        exact hg k r p' hr hp'
      · have hkk : k = M.length := by
          have := (List.getElem?_eq_some_iff.mp hr).1
          simp at this
          omega
        subst hkk
        rw [List.getElem?_append_right (by omega)] at hr
        have ev : zs = r := by simpa using hr
        subst ev
        rw [hM, hp] at hp'
        obtain rfl := Option.some.inj hp'
        exact ⟨hz2, hzs⟩
  · obtain ⟨dk, M, a4, a5, rfl, hk, hM, _, hg⟩ := hI
    have zl : (zipD ((lowL P).map rowT) ((highL P).map rowT)).length = n := by rw [zipD_len (by simp [lowL, highL])]; simp [lowL, hP.l]
    rw [zl] at hk hM
    walk_at "dl"
    exact ⟨M, rfl, ⟨hM, hg⟩, hk.mono (by omega)⟩
end K08
set_option maxHeartbeats 4000000
namespace K08
open PySem PySem.Spec L2 DL
-- DLMAC
local macro_rules | `(tactic| walk_at "dl1") => `(tactic| with_reducible first
  | refine ws_seq ?_ | refine seq_n ?_ | refine seq_r ?_ | refine seq_x ?_ | refine ws_asg ?_ | refine ws_ret ?_ | refine ws_if ?_ | refine ws_ift ?_ | refine ws_iff ?_ | refine ws_next ?_
  | refine wp_const ?_ | refine wp_ret ?_ | refine wp_yes ?_ | refine wp_toD ?_ | refine td_d ?_ | refine td_o ?_ | refine wp_ofD ?_ | refine wp_bin2 ?_ | refine wp_un1 ?_ | refine wp_nilA ?_ | refine wp_consA ?_ | refine wp_tup ?_ | refine wp_lst ?_
  | refine wp_tB ?_ | refine tbP ?_ | refine wp_notT ?_ | refine wp_andT ?_ | refine wp_orT ?_ | refine wp_iteM ?_ | refine wp_andE ?_ | refine wp_orE ?_ | refine wp_notE ?_ | refine wp_ift ?_ | refine wp_iff ?_ | refine wp_chain2 ?_
  | refine wp_call ?_ | refine wp_nilV ?_ | refine wp_consV ?_ | refine wp_isi ?_ | refine wp_isi2 ?_ | refine wp_lc ?_ | refine wp_seqI ?_ | refine wp_slO ?_ | refine wp_noPart ?_ | refine wp_part ?_ | refine wp_intO ?_ | refine wp_slT ?_ | refine wp_slL ?_
  | refine wp_neg ?_ | refine wp_sub ?_ | refine wp_add ?_ | refine wp_cmp ?_ | refine wp_eqI ?_ | refine wp_neI ?_ | refine wp_is ?_ | refine wp_isNot ?_ | refine wp_lenT ?_ | refine wp_lenL ?_
  | refine wp_absF ?_ | refine wp_intF ?_ | refine wp_intB ?_ | refine wp_allM ?_ | refine wp_anyM ?_ | refine wp_tupT ?_ | refine wp_tupL ?_ | refine wp_listT ?_ | refine wp_listL ?_ | refine wp_max ?_ | refine wp_min ?_
  | refine ws_asgT ?_ | refine ws_par ?_ | refine ws_par3 ?_ | refine ws_parO ?_ | refine ws_retN ?_ | refine ws_drop ?_ | refine ws_brk ?_ | refine ws_cont ?_ | refine ws_raise ?_ | refine ws_for ?_ | refine ws_for0 ?_ | refine forP_n ?_ | refine forP_r ?_ | refine lp_n ?_ | refine lp_c ?_ | refine lp_b ?_ | refine lp_r ?_ | refine lp_x ?_ | refine ws_while ?_
  | refine itemsT ?_ | refine itemsL ?_ | refine parP ?_ | refine par3P ?_ | refine ws_put ?_ | refine wp_zipL ?_ | refine wp_join ?_ | refine joinP ?_ | refine wp_split ?_ | refine splitP ?_
  | refine wp_try ?_ | refine tryV_d ?_ | refine tryV_o ?_ | refine wp_bnd ?_ | refine ws_bnd ?_)
local macro_rules | `(tactic| walk_at "dl2") => `(tactic| first
  | ((with_reducible apply wp_var); · exact rfl)
  | ((with_reducible apply wp_varO); · exact rfl)
  | ((with_reducible apply wp_take); · exact rfl)
  | ((with_reducible apply wp_takeO); · exact rfl)
  | ((with_reducible apply lenP); · (show _ ≤ (16777216 : Nat); simp; done))
  | ((with_reducible apply wp_lenD); · exact rfl)
  | ((with_reducible apply wp_lenV); · exact rfl)
  | ((with_reducible apply wp_ixV); · exact rfl)
  | ((with_reducible apply wp_atD); · exact rfl)
  | ((with_reducible apply wp_consL); · exact rfl)
  | ((with_reducible apply wp_in); · exact rfl
     · exact rfl)
  | ((with_reducible apply fin_d); · exact rfl)
  | ((with_reducible apply fin_o); · exact rfl)
  | ((with_reducible apply fin_n); · exact rfl)
  | ((with_reducible apply fin_x); · exact rfl)
  | ((with_reducible apply wp_zip); · exact rfl
     · exact rfl)
  | ((with_reducible apply wp_enum); · exact rfl)
  | ((with_reducible apply wp_neSame); · decide +kernel)
  | ((with_reducible apply wp_eqSame); · decide +kernel)
  | ((with_reducible apply wp_eq); · exact rfl)
  | ((with_reducible apply wp_ne); · exact rfl)
  | ((with_reducible apply wp_pow); · decide)
  | ((with_reducible apply wp_at); · exact rfl
     · exact rfl)
  | ((with_reducible apply wp_atS); · exact rfl
     · exact rfl)
  | ((with_reducible apply wp_isX); · exact rfl)
  | ((with_reducible apply wp_addL); · (show _ ≤ (16777216 : Nat); first | (simp; done) | (simp; omega) | omega))
  | ((with_reducible apply wp_addT); · (show _ ≤ (16777216 : Nat); first | (simp; done) | (simp; omega) | omega))
  | ((with_reducible apply plainP); · first | exact rfl | assumption)
  | ((with_reducible apply asgP); · exact rfl)
  | ((with_reducible apply someP); · exact rfl)
  | ((with_reducible apply ws_app); · exact rfl)
  | ((with_reducible apply appP); · exact rfl
     · (show _ < (16777216 : Nat); first | (simp; done) | (simp; omega) | omega))
  | ((with_reducible apply ws_putAt); · exact rfl
     · exact rfl)
  | ((with_reducible apply ws_forC); · exact rfl)
  | ((with_reducible apply wp_lcVO); · exact rfl
     · exact rfl)
  | ((with_reducible apply wp_lcVD); · exact rfl)
  | ((with_reducible apply wp_splitF); · exact rfl)
  | ((with_reducible apply wp_joinF); · exact rfl
     · exact rfl
     · decide)
  | ((with_reducible apply ws_ifT); · exact rfl)
  | ((with_reducible apply ws_ifF); · exact rfl)
  | ((with_reducible apply wp_ifT); · exact rfl)
  | ((with_reducible apply wp_ifF); · exact rfl))
local macro_rules | `(tactic| walk_at "dl") => `(tactic| repeat (first | walk_at "dl1" | walk_at "dl2"))
-- DLEND
theorem at0 (x : D) (r : List D) : atI (x :: r) 0 = some x := by
  obtain ⟨d, h1, _, h3⟩ := atI_pos (xs := x :: r) (i := 0) (by decide) (by rw [List.length_cons]; omega)
  rw [h1]
  exact h3.symm
theorem first_filter (g : D → Bool) : ∀ all : List D, firstBad g all = (match all.filter fun T => !g T with
    | [] => .non
    | T :: _ => T)
  | [] => rfl
  | T :: r => by
    unfold firstBad
    rw [List.filter_cons]
    cases h : g T with
    | true => simpa using first_filter g r
    | false => simp
theorem filterMap_filter (g : D → Bool) : ∀ all : List D, (all.filterMap fun T => if g T = true then none else some T) = all.filter fun T => !g T
  | [] => rfl
  | T :: r => by
    rw [List.filterMap_cons, List.filter_cons, filterMap_filter g r]
    cases g T <;> rfl
theorem ends_wf {n : Nat} {L H : List (List Int)} (hL : Tb n L) (hH : Tb n H) {T : D} (hT : T ∈ endsT L H) : TabOk n T ∧ f__law_is_single [.d T] = ⟨.ok (.d (.bl (gS T))), [], true⟩ := by
  obtain ⟨M, rfl, hM⟩ := tab_of (sq_of hL hH) hL.small hH.small hT
  rw [gS_mat hL.n1 hL.n3 hM]
  exact ⟨mat_tab hM, (mat_single hL.n1 hL.n3 hM).2.2⟩
theorem ends_len {n : Nat} {L H : List (List Int)} (hL : Tb n L) (hH : Tb n H) : (endsT L H).length ≤ 512 := by
  rw [List.length_map]
  have S := sq_of hL hH
  have q := cpD_size (chs L H) 8 fun c hc => chs_small S c hc
  have l := hL.l
  have h := hH.l
  have n3 := hL.n3
  have q2 : 8 ^ (chs L H).length ≤ 8 ^ 3 := Nat.pow_le_pow_right (by decide) (by rw [chs_len (by omega)]; omega)
  exact Nat.le_trans q q2
theorem sub_wf {n : Nat} {L H : List (List Int)} (hL : Tb n L) (hH : Tb n H) {bad : List D} (hb : ∀ T ∈ bad, T ∈ endsT L H) (hl : bad.length ≤ 512) : Wf 512 3 (.lst bad) :=
  ⟨hl, fun T hT => ((ends_wf hL hH (hb T hT)).1.wf hL.n3).wide (by decide)⟩
abbrev noR : MS := retS (ofD (constE (.bl false)))
abbrev fns : List (Str × Fn) := [("all_single", f_all_single), ("first_bad", f_first_bad)]
abbrev mMany : MS := (seqS (asgT (tupN 2 (consT (nameT 4) (consT (nameT 5) (nilT)))) (toD (callM f__law_bounds (consL 2 (consV (varE 3) (nilV)))))) (seqS (asgS 6 (lcO [21] (seqI (toD (callM f__law_ends (consV (varE 4) (consV (varE 5) (nilV)))))) (nameT 21) (notT (tB (toD (callM f__law_is_single (consV (varE 21) (nilV)))))) (varE 21))) (seqS (asgS 7 (lstO (consA (toD (callM f_first_bad (consV (varE 4) (consV (varE 5) (nilV))))) (consA (toD (callM f_all_single (consV (varE 4) (consV (varE 5) (nilV))))) (nilA))))) (seqS (ifS (notT (tB (toD (callM (f__law_same 8) (consV (varE 7) (consV (toD (lstO (consA (iteM (tB (bin2 neF (varE 6) (toD (lstO (nilA))))) (ixV 6 (constE (.int 0))) (constE .non)) (consA (bin2 eqF (varE 6) (toD (lstO (nilA)))) (nilA))))) (nilV))))))) (noR) (nextS)) (forS (bnd (consA (iteM (tB (bin2 eqF (varE 6) (toD (lstO (nilA))))) (constE (.int 10)) (constE (.int 0))) (nilA)) range1F) (nameT 8) (ifS (notT (tB (toD (callM f_is_single (consV (toD (callM f__law_between (consL 2 (consV (varE 4) (consV (varE 5) (nilV)))))) (nilV)))))) (noR) (nextS)))))))
theorem many_ok {b n : Nat} {S c : Option SV} {dk : List D} {a4 a5 a6 a7 a8 a9 a10 a11 a12 a13 a14 a15 a16 a17 a18 a19 a20 : Option SV} {Q : Fl → Ev → Prop} (h1 : 1 ≤ n) (hn : n ≤ 3) (hd : DeckOk b dk) (hb : b + 1000 < 1048576)
    (q : ∀ dk P b6 b7 b8, DeckOk (b + 200) dk → PP n n P → Q .next [S, c, some (.own 0 dk), some (.d (.int (n : Nat))), some (.d (tabT (lowL P))), some (.d (tabT (highL P))), b6, b7, b8, a9, a10, a11, a12, a13, a14, a15, a16, a17, a18, a19, a20, none]) :
    WS mMany [S, c, some (.own 0 dk), some (.d (.int (n : Nat))), a4, a5, a6, a7, a8, a9, a10, a11, a12, a13, a14, a15, a16, a17, a18, a19, a20, none] Q := by
  obtain ⟨P, d1, e1, hP, hk⟩ := law_bounds_ok h1 hn hd (by omega)
  obtain ⟨tL, tH, lo⟩ := hP.ok h1 hn
  have SQ := sq_of tL tH
  walk_at "dl"
  refine cs2 rfl e1 ?_
  walk_at "dl"
  refine cp2 (ends_ok SQ) ?_
  walk_at "dl"
  rw [all_tabs SQ]
  have ll := ends_len tL tH
  refine lc_f (fun T => if gS T = true then none else some T) (by show (endsT (lowL P) (highL P)).length ≤ mx; unfold mx; omega) (fun T hT => ⟨_, rfl, ?_⟩) ?_
  · walk_at "dl"
    refine cp1 (ends_wf tL tH hT).2 ?_
    walk_at "dl"
    cases g : gS T with
    | true =>
      rw [if_neg (by decide)]
      exact ⟨by rw [if_pos rfl], rfl⟩
    | false =>
      rw [if_pos (by decide)]
      refine ⟨T, by rw [if_neg (by decide)], ?_⟩
      walk_at "dl"
      exact ⟨rfl, rfl⟩
  rw [filterMap_filter]
  walk_at "dl"
  refine cp2 (first_bad_ok tL tH lo) ?_
  walk_at "dl"
  refine cp2 (all_single_ok tL tH lo) ?_
  walk_at "dl"
  rw [first_filter]
  have hbad : ∀ T ∈ (endsT (lowL P) (highL P)).filter (fun T => !gS T), T ∈ endsT (lowL P) (highL P) := fun T hT => (List.mem_filter.mp hT).1
  have hlen : ((endsT (lowL P) (highL P)).filter fun T => !gS T).length ≤ 512 := Nat.le_trans (List.length_filter_le _ _) ll
  have hw := sub_wf tL tH hbad hlen
  have hemp : ∀ V : Nat → Nat → Int, (∀ i j, i < n → j < n → V i j = en (lowL P) i j ∨ V i j = en (highL P) i j) → ((endsT (lowL P) (highL P)).filter fun T => !gS T) = [] → sg n V = true := fun V hV he => by
    have hin := tab_in SQ hV
    have hs : Small n V := fun i j hi hj => by
      rcases hV i j hi hj with z | z <;> rw [z]
      · exact tL.small i j hi hj
      · exact tH.small i j hi hj
    rw [← gS_mat h1 hn hs]
    cases g : gS (mat n V) with
    | true => rfl
    | false =>
      have : mat n V ∈ (endsT (lowL P) (highL P)).filter fun T => !gS T := List.mem_filter.mpr ⟨hin, by rw [g]; rfl⟩
      rw [he] at this
      cases this
  generalize ((endsT (lowL P) (highL P)).filter fun T => !gS T) = bad at hbad hlen hw hemp ⊢
  have hsh : ((D.lst bad).shp && (D.lst []).shp) = true := by rw [hw.shp (by decide), shp_nil]; rfl
  refine wp_ne hsh ?_
  rw [beq_nil]
  cases bad with
  | nil =>
    walk_at "dl"
    refine cp2 (same_refl 2 (L := 10) (by decide) (by decide) (by decide) ⟨by simp, fun x hx => by
      rcases List.mem_cons.mp hx with z | z
      · rw [z]; exact Wf.atom rfl
      · rw [List.mem_singleton.mp z]; exact Wf.atom rfl⟩) ?_
    walk_at "dl"
    refine wp_range (by decide) ?_
    walk_at "dl"
    refine ws_forI (fun i e => ∃ dk b8, e = [S, c, some (.own 0 dk), some (.d (.int (n : Nat))), some (.d (tabT (lowL P))), some (.d (tabT (highL P))), some (.d (.lst [])), some (.d (.lst [.non, .bl true])), b8, a9, a10, a11, a12, a13, a14, a15, a16, a17, a18, a19, a20, none] ∧ DeckOk (b + 40 + 9 * i) dk) ⟨_, _, rfl, hk⟩ (fun i d e hd hI => ?_) (fun e hI => ?_)
    · obtain ⟨dk, b8, rfl, hk⟩ := hI
      have hi := (List.getElem?_eq_some_iff.mp hd).1
      rw [List.length_map, List.length_range] at hi
      have hi : i < 10 := hi
      obtain ⟨M, d2, e2, tM, hM, hk2⟩ := between_ok hP h1 hn hk (by omega)
      refine ⟨_, rfl, ?_⟩
      walk_at "dl"
      refine cs3 rfl e2 ?_
      walk_at "dl"
      have es : f_is_single [.d (tabT M)] = ⟨.ok (.d (.bl true)), [], true⟩ := by
        rw [tM.mat, (mat_single h1 hn tM.small).2.1, between h1 hn hM fun V hV => hemp V hV rfl]
      refine cp1 es ?_
      walk_at "dl"
      exact ⟨_, _, rfl, hk2.mono (by omega)⟩
    · obtain ⟨dk, b8, rfl, hk⟩ := hI
      exact q _ P _ _ _ (hk.mono (by simp)) hP
  | cons T r =>
    obtain ⟨rs, rfl, _, _⟩ := (ends_wf tL tH (hbad T List.mem_cons_self)).1
    have hT := (ends_wf tL tH (hbad _ List.mem_cons_self)).1.wf hn
    walk_at "dl"
    refine wp_at rfl (at0 _ r) ?_
    walk_at "dl"
    refine wp_eq hsh ?_
    rw [beq_nil]
    walk_at "dl"
    refine cp2 (same_refl 3 (L := 10) (by decide) (by decide) (by decide) ⟨by simp, fun x hx => by
      rcases List.mem_cons.mp hx with z | z
      · rw [z]; exact hT.wide (by decide)
      · rw [List.mem_singleton.mp z]; exact Wf.atom rfl⟩) ?_
    walk_at "dl"
    refine wp_eq hsh ?_
    rw [beq_nil]
    walk_at "dl"
    refine wp_range (by decide) ?_
    walk_at "dl"
    exact ws_for0 (q _ P _ _ _ (hk.mono (by omega)) hP)
end K08
set_option maxHeartbeats 4000000
namespace K08
open PySem PySem.Spec L2 DL
-- DLMAC
local macro_rules | `(tactic| walk_at "dl1") => `(tactic| with_reducible first
  | refine ws_seq ?_ | refine seq_n ?_ | refine seq_r ?_ | refine seq_x ?_ | refine ws_asg ?_ | refine ws_ret ?_ | refine ws_if ?_ | refine ws_ift ?_ | refine ws_iff ?_ | refine ws_next ?_
  | refine wp_const ?_ | refine wp_ret ?_ | refine wp_yes ?_ | refine wp_toD ?_ | refine td_d ?_ | refine td_o ?_ | refine wp_ofD ?_ | refine wp_bin2 ?_ | refine wp_un1 ?_ | refine wp_nilA ?_ | refine wp_consA ?_ | refine wp_tup ?_ | refine wp_lst ?_
  | refine wp_tB ?_ | refine tbP ?_ | refine wp_notT ?_ | refine wp_andT ?_ | refine wp_orT ?_ | refine wp_iteM ?_ | refine wp_andE ?_ | refine wp_orE ?_ | refine wp_notE ?_ | refine wp_ift ?_ | refine wp_iff ?_ | refine wp_chain2 ?_
  | refine wp_call ?_ | refine wp_nilV ?_ | refine wp_consV ?_ | refine wp_isi ?_ | refine wp_isi2 ?_ | refine wp_lc ?_ | refine wp_seqI ?_ | refine wp_slO ?_ | refine wp_noPart ?_ | refine wp_part ?_ | refine wp_intO ?_ | refine wp_slT ?_ | refine wp_slL ?_
  | refine wp_neg ?_ | refine wp_sub ?_ | refine wp_add ?_ | refine wp_cmp ?_ | refine wp_eqI ?_ | refine wp_neI ?_ | refine wp_is ?_ | refine wp_isNot ?_ | refine wp_lenT ?_ | refine wp_lenL ?_
  | refine wp_absF ?_ | refine wp_intF ?_ | refine wp_intB ?_ | refine wp_allM ?_ | refine wp_anyM ?_ | refine wp_tupT ?_ | refine wp_tupL ?_ | refine wp_listT ?_ | refine wp_listL ?_ | refine wp_max ?_ | refine wp_min ?_
  | refine ws_asgT ?_ | refine ws_par ?_ | refine ws_par3 ?_ | refine ws_parO ?_ | refine ws_retN ?_ | refine ws_drop ?_ | refine ws_brk ?_ | refine ws_cont ?_ | refine ws_raise ?_ | refine ws_for ?_ | refine ws_for0 ?_ | refine forP_n ?_ | refine forP_r ?_ | refine lp_n ?_ | refine lp_c ?_ | refine lp_b ?_ | refine lp_r ?_ | refine lp_x ?_ | refine ws_while ?_
  | refine itemsT ?_ | refine itemsL ?_ | refine parP ?_ | refine par3P ?_ | refine ws_put ?_ | refine wp_zipL ?_ | refine wp_join ?_ | refine joinP ?_ | refine wp_split ?_ | refine splitP ?_
  | refine wp_try ?_ | refine tryV_d ?_ | refine tryV_o ?_ | refine wp_bnd ?_ | refine ws_bnd ?_)
local macro_rules | `(tactic| walk_at "dl2") => `(tactic| first
  | ((with_reducible apply wp_var); · exact rfl)
  | ((with_reducible apply wp_varO); · exact rfl)
  | ((with_reducible apply wp_take); · exact rfl)
  | ((with_reducible apply wp_takeO); · exact rfl)
  | ((with_reducible apply lenP); · (show _ ≤ (16777216 : Nat); simp; done))
  | ((with_reducible apply wp_lenD); · exact rfl)
  | ((with_reducible apply wp_lenV); · exact rfl)
  | ((with_reducible apply wp_ixV); · exact rfl)
  | ((with_reducible apply wp_atD); · exact rfl)
  | ((with_reducible apply wp_consL); · exact rfl)
  | ((with_reducible apply wp_in); · exact rfl
     · exact rfl)
  | ((with_reducible apply fin_d); · exact rfl)
  | ((with_reducible apply fin_o); · exact rfl)
  | ((with_reducible apply fin_n); · exact rfl)
  | ((with_reducible apply fin_x); · exact rfl)
  | ((with_reducible apply wp_zip); · exact rfl
     · exact rfl)
  | ((with_reducible apply wp_enum); · exact rfl)
  | ((with_reducible apply wp_neSame); · decide +kernel)
  | ((with_reducible apply wp_eqSame); · decide +kernel)
  | ((with_reducible apply wp_eq); · exact rfl)
  | ((with_reducible apply wp_ne); · exact rfl)
  | ((with_reducible apply wp_pow); · decide)
  | ((with_reducible apply wp_at); · exact rfl
     · exact rfl)
  | ((with_reducible apply wp_atS); · exact rfl
     · exact rfl)
  | ((with_reducible apply wp_isX); · exact rfl)
  | ((with_reducible apply wp_addL); · (show _ ≤ (16777216 : Nat); first | (simp; done) | (simp; omega) | omega))
  | ((with_reducible apply wp_addT); · (show _ ≤ (16777216 : Nat); first | (simp; done) | (simp; omega) | omega))
  | ((with_reducible apply plainP); · first | exact rfl | assumption)
  | ((with_reducible apply asgP); · exact rfl)
  | ((with_reducible apply someP); · exact rfl)
  | ((with_reducible apply ws_app); · exact rfl)
  | ((with_reducible apply appP); · exact rfl
     · (show _ < (16777216 : Nat); first | (simp; done) | (simp; omega) | omega))
  | ((with_reducible apply ws_putAt); · exact rfl
     · exact rfl)
  | ((with_reducible apply ws_forC); · exact rfl)
  | ((with_reducible apply wp_lcVO); · exact rfl
     · exact rfl)
  | ((with_reducible apply wp_lcVD); · exact rfl)
  | ((with_reducible apply wp_splitF); · exact rfl)
  | ((with_reducible apply wp_joinF); · exact rfl
     · exact rfl
     · decide)
  | ((with_reducible apply ws_ifT); · exact rfl)
  | ((with_reducible apply ws_ifF); · exact rfl)
  | ((with_reducible apply wp_ifT); · exact rfl)
  | ((with_reducible apply wp_ifF); · exact rfl))
local macro_rules | `(tactic| walk_at "dl") => `(tactic| repeat (first | walk_at "dl1" | walk_at "dl2"))
-- DLEND
def mOdd : MS := (seqS (ifS (tB (bin2 neF (toD (tryM kt (callVM 9 fns (consV (varE 10) (consV (constE .non) (nilV)))))) (constE (.str "table +")))) (noR) (nextS)) (ifS (tB (bin2 neF (toD (tryM kt (callVM 9 fns (consV (varE 4) (consV (varE 10) (nilV)))))) (constE (.str "table +")))) (noR) (nextS)))
def mLess : MS := (seqS (asgS 11 (bin2 addF (tupE (consA (toD (bin2 addF (tupE (consA (bin2 subF (bin2 atF (ixV 4 (constE (.int 0))) (constE (.int 0))) (constE (.int 1))) (nilA))) (toD (slO (ixV 4 (constE (.int 0))) (part (constE (.int 1))) (noPart))))) (nilA))) (toD (slO (varE 4) (part (constE (.int 1))) (noPart))))) (ifS (andT (tB (bin2 (cmpF gtP) (bin2 atF (ixV 4 (constE (.int 0))) (constE (.int 0))) (un1 negF (constE (.int 9))))) (tB (bin2 neF (toD (tryM kt (callVM 9 fns (consV (varE 4) (consV (varE 11) (nilV)))))) (constE (.str "table +"))))) (noR) (nextS)))
abbrev mFn : MS := (seqS (forS (seqI (toD (lstO (consA (constE .non) (consA (tupE (nilA)) (consA (tupE (consA (tupE (consA (constE (.int 1)) (consA (constE (.int 2)) (nilA)))) (nilA))) (consA (toD (slO (varE 4) (noPart) (part (constE (.int 2))))) (consA (toD (bnd (consA (varE 5) (nilA)) listF)) (nilA))))))))) (nameT 10) mOdd) mLess)
/-- a call that is to be refused -/
theorem call_err {f : Fn} {fs : List (Str × Fn)} {nm : Str} {i : Nat} {ma mb : M D} {e : Ev} {T U : D} {Q : SV → Ev → Prop} {X : Exc → Ev → Prop} (hl : lookF nm fs = some f) (hi : e[i]? = some (some (.d (.fn nm)))) (ha : ma e = ⟨.ok T, e, true⟩) (hb : mb e = ⟨.ok U, e, true⟩) (hf : f [.d T, .d U] = ⟨.error ⟨"InvalidTable", none⟩, [], true⟩) (q : X ⟨"InvalidTable", none⟩ e) :
    WP (callVM i fs (consV ma (consV mb nilV))) e Q X :=
  wp_callV hi hl (wp_call (wp_consV (wp_ok ha (wp_consV (wp_ok hb (wp_nilV (cx2 hf q)))))))
theorem look_fns {f : Fn} {nm : Str} (h : lookF nm fns = some f) : f = f_all_single ∨ f = f_first_bad := by
  unfold fns lookF at h
  split at h
  · exact .inl (Option.some.inj h).symm
  · unfold lookF at h
    split at h
    · exact .inr (Option.some.inj h).symm
    · cases h
theorem odd_ok {f : Fn} {nm : Str} {L : List (List Int)} {d : D} {e : Ev} {Q : Fl → Ev → Prop} {k : Nat} (hl : lookF nm fns = some f) (hL : Tb 3 L) (h4 : e[4]? = some (some (.d (tabT L)))) (h9 : e[9]? = some (some (.d (.fn nm)))) (h10 : e[10]? = some (some (.d d))) (hw : Wf 10 k d) (hd : tabB d = false) (q : Q .next e) : WS mOdd e Q := by
  have hf := look_fns hl
  have v4 : (varE 4) e = ⟨.ok (tabT L), e, true⟩ := varE_ok h4
  have v10 : (varE 10) e = ⟨.ok d, e, true⟩ := varE_ok h10
  unfold mOdd
  walk_at "dl"
  refine call_err hl h9 v10 rfl (two_err hf (bounds_err1 hw (by decide) hd)) ?_
  refine tryX rfl ?_
  walk_at "dl"
  refine call_err hl h9 v4 v10 (two_err hf (bounds_err2 hL hw (by decide) hd)) ?_
  refine tryX rfl ?_
  walk_at "dl"
  exact q
theorem three {L : List (List Int)} (h : Tb 3 L) : ∃ a b c d e f g k i, L = [[a, b, c], [d, e, f], [g, k, i]] := by
  obtain ⟨x, y, z, rfl⟩ := len_3 h.l
  obtain ⟨a, b, c, rfl⟩ := len_3 (h.lr x (by simp))
  obtain ⟨d, e, f, rfl⟩ := len_3 (h.lr y (by simp))
  obtain ⟨g, k, i, rfl⟩ := len_3 (h.lr z (by simp))
  exact ⟨_, _, _, _, _, _, _, _, _, rfl⟩
theorem less_ok {f : Fn} {nm : Str} {x0 x1 x2 x3 x4 x5 x6 x7 x8 : Int} {S c dk nn a5 a6 a7 a8 a10 a11 a12 a13 a14 a15 a16 a17 a18 a19 a20 : Option SV} {Q : Fl → Ev → Prop} (hl : lookF nm fns = some f) (hL : Tb 3 [[x0, x1, x2], [x3, x4, x5], [x6, x7, x8]])
    (q : ∀ b11, Q .next [S, c, dk, nn, some (.d (tabT [[x0, x1, x2], [x3, x4, x5], [x6, x7, x8]])), a5, a6, a7, a8, some (.d (.fn nm)), a10, b11, a12, a13, a14, a15, a16, a17, a18, a19, a20, none]) :
    WS mLess [S, c, dk, nn, some (.d (.tup [.tup [.int x0, .int x1, .int x2], .tup [.int x3, .int x4, .int x5], .tup [.int x6, .int x7, .int x8]])), a5, a6, a7, a8, some (.d (.fn nm)), a10, a11, a12, a13, a14, a15, a16, a17, a18, a19, a20, none] Q := by
  have hf := look_fns hl
  unfold mLess
  walk_at "dl"
  refine wp_addT (show 1 + 2 ≤ mx by decide) ?_
  walk_at "dl"
  refine wp_addT (show 1 + 2 ≤ mx by decide) ?_
  walk_at "dl"
  refine wp_ifc (fun h => ?_) fun h => ?_
  · have h9 : -9 < x0 := of_decide_eq_true h
    have hU : Tb 3 [[x0 - 1, x1, x2], [x3, x4, x5], [x6, x7, x8]] := ⟨by decide, by decide, rfl, fun r hr => by
      simp only [List.mem_cons, List.not_mem_nil, or_false] at hr
      rcases hr with z | z | z <;> rw [z] <;> rfl, fun r hr x hx => by
      have s0 := hL.sm [x0, x1, x2] (by simp) x0 (List.mem_cons_self)
      simp only [List.mem_cons, List.not_mem_nil, or_false] at hr
      rcases hr with z | z | z <;> subst z
      · rcases List.mem_cons.mp hx with z | z
        · rw [z]; omega
        · exact hL.sm [x0, x1, x2] (by simp) x (List.mem_cons_of_mem _ z)
      · exact hL.sm _ (by simp) x hx
      · exact hL.sm _ (by simp) x hx⟩
    have e := bounds_both hL hU (.inr ⟨fun lo => by
      have z := lo 0 0 (by decide) (by decide)
      have z : x0 ≤ x0 - 1 := z
      omega, rfl⟩)
    walk_at "dl"
    refine call_err hl rfl (varE_ok rfl) (varE_ok rfl) (two_err hf e) ?_
    refine tryX rfl ?_
    walk_at "dl"
    exact q _
  · walk_at "dl"
    exact q _
theorem fn_ok {f : Fn} {nm : Str} {L H : List (List Int)} {S c : Option SV} {dk nn : Option SV} {a6 a7 a8 a10 a11 a12 a13 a14 a15 a16 a17 a18 a19 a20 : Option SV} {Q : Fl → Ev → Prop} (hl : lookF nm fns = some f) (hL : Tb 3 L) (hH : Tb 3 H)
    (q : ∀ b10 b11, Q .next [S, c, dk, nn, some (.d (tabT L)), some (.d (tabT H)), a6, a7, a8, some (.d (.fn nm)), b10, b11, a12, a13, a14, a15, a16, a17, a18, a19, a20, none]) :
    WS mFn [S, c, dk, nn, some (.d (tabT L)), some (.d (tabT H)), a6, a7, a8, some (.d (.fn nm)), a10, a11, a12, a13, a14, a15, a16, a17, a18, a19, a20, none] Q := by
  obtain ⟨x0, x1, x2, x3, x4, x5, x6, x7, x8, rfl⟩ := three hL
  obtain ⟨y0, y1, y2, y3, y4, y5, y6, y7, y8, rfl⟩ := three hH
  have hf := look_fns hl
  walk_at "dl"
  refine wp_slT (xs := [rowT [x0, x1, x2], rowT [x3, x4, x5], rowT [x6, x7, x8]]) ?_
  walk_at "dl"
  refine wp_listT (xs := [rowT [y0, y1, y2], rowT [y3, y4, y5], rowT [y6, y7, y8]]) ?_
  walk_at "dl"
  refine odd_ok (k := 4) (d := .non) hl hL rfl rfl rfl (Wf.atom rfl) rfl ?_
  walk_at "dl"
  refine odd_ok (k := 4) (d := .tup []) hl hL rfl rfl rfl ⟨by decide, fun x hx => by cases hx⟩ rfl ?_
  walk_at "dl"
  refine odd_ok (k := 4) (d := .tup [.tup [.int 1, .int 2]]) hl hL rfl rfl rfl ⟨by decide, fun x hx => by
    rw [List.mem_singleton.mp hx]
    exact ⟨by decide, fun y hy => by
      rcases List.mem_cons.mp hy with z | z
      · rw [z]; trivial
      · rw [List.mem_singleton.mp z]; trivial⟩⟩ (by decide +kernel) ?_
  walk_at "dl"
  refine odd_ok (k := 4) (d := .tup [rowT [x0, x1, x2], rowT [x3, x4, x5]]) hl hL rfl rfl rfl ⟨by simp, fun x hx => by
    rcases List.mem_cons.mp hx with z | z
    · rw [z]; exact ((row_wf (by simp)).up 2).wide (by decide)
    · rw [List.mem_singleton.mp z]; exact ((row_wf (by simp)).up 2).wide (by decide)⟩ rfl ?_
  walk_at "dl"
  refine odd_ok (k := 4) (d := .lst [rowT [y0, y1, y2], rowT [y3, y4, y5], rowT [y6, y7, y8]]) hl hL rfl rfl rfl ⟨by simp, fun x hx => by
    rcases List.mem_cons.mp hx with z | z
    · rw [z]; exact ((row_wf (by simp)).up 2).wide (by decide)
    rcases List.mem_cons.mp z with z | z
    · rw [z]; exact ((row_wf (by simp)).up 2).wide (by decide)
    · rw [List.mem_singleton.mp z]; exact ((row_wf (by simp)).up 2).wide (by decide)⟩ rfl ?_
  walk_at "dl"
  exact less_ok hl hL (q _)
end K08
set_option maxHeartbeats 4000000
namespace K08
open PySem PySem.Spec L2 DL
-- DLMAC
local macro_rules | `(tactic| walk_at "dl1") => `(tactic| with_reducible first
  | refine ws_seq ?_ | refine seq_n ?_ | refine seq_r ?_ | refine seq_x ?_ | refine ws_asg ?_ | refine ws_ret ?_ | refine ws_if ?_ | refine ws_ift ?_ | refine ws_iff ?_ | refine ws_next ?_
  | refine wp_const ?_ | refine wp_ret ?_ | refine wp_yes ?_ | refine wp_toD ?_ | refine td_d ?_ | refine td_o ?_ | refine wp_ofD ?_ | refine wp_bin2 ?_ | refine wp_un1 ?_ | refine wp_nilA ?_ | refine wp_consA ?_ | refine wp_tup ?_ | refine wp_lst ?_
  | refine wp_tB ?_ | refine tbP ?_ | refine wp_notT ?_ | refine wp_andT ?_ | refine wp_orT ?_ | refine wp_iteM ?_ | refine wp_andE ?_ | refine wp_orE ?_ | refine wp_notE ?_ | refine wp_ift ?_ | refine wp_iff ?_ | refine wp_chain2 ?_
  | refine wp_call ?_ | refine wp_nilV ?_ | refine wp_consV ?_ | refine wp_isi ?_ | refine wp_isi2 ?_ | refine wp_lc ?_ | refine wp_seqI ?_ | refine wp_slO ?_ | refine wp_noPart ?_ | refine wp_part ?_ | refine wp_intO ?_ | refine wp_slT ?_ | refine wp_slL ?_
  | refine wp_neg ?_ | refine wp_sub ?_ | refine wp_add ?_ | refine wp_cmp ?_ | refine wp_eqI ?_ | refine wp_neI ?_ | refine wp_is ?_ | refine wp_isNot ?_ | refine wp_lenT ?_ | refine wp_lenL ?_
  | refine wp_absF ?_ | refine wp_intF ?_ | refine wp_intB ?_ | refine wp_allM ?_ | refine wp_anyM ?_ | refine wp_tupT ?_ | refine wp_tupL ?_ | refine wp_listT ?_ | refine wp_listL ?_ | refine wp_max ?_ | refine wp_min ?_
  | refine ws_asgT ?_ | refine ws_par ?_ | refine ws_par3 ?_ | refine ws_parO ?_ | refine ws_retN ?_ | refine ws_drop ?_ | refine ws_brk ?_ | refine ws_cont ?_ | refine ws_raise ?_ | refine ws_for ?_ | refine ws_for0 ?_ | refine forP_n ?_ | refine forP_r ?_ | refine lp_n ?_ | refine lp_c ?_ | refine lp_b ?_ | refine lp_r ?_ | refine lp_x ?_ | refine ws_while ?_
  | refine itemsT ?_ | refine itemsL ?_ | refine parP ?_ | refine par3P ?_ | refine ws_put ?_ | refine wp_zipL ?_ | refine wp_join ?_ | refine joinP ?_ | refine wp_split ?_ | refine splitP ?_
  | refine wp_try ?_ | refine tryV_d ?_ | refine tryV_o ?_ | refine wp_bnd ?_ | refine ws_bnd ?_)
local macro_rules | `(tactic| walk_at "dl2") => `(tactic| first
  | ((with_reducible apply wp_var); · exact rfl)
  | ((with_reducible apply wp_varO); · exact rfl)
  | ((with_reducible apply wp_take); · exact rfl)
  | ((with_reducible apply wp_takeO); · exact rfl)
  | ((with_reducible apply lenP); · (show _ ≤ (16777216 : Nat); simp; done))
  | ((with_reducible apply wp_lenD); · exact rfl)
  | ((with_reducible apply wp_lenV); · exact rfl)
  | ((with_reducible apply wp_ixV); · exact rfl)
  | ((with_reducible apply wp_atD); · exact rfl)
  | ((with_reducible apply wp_consL); · exact rfl)
  | ((with_reducible apply wp_in); · exact rfl
     · exact rfl)
  | ((with_reducible apply fin_d); · exact rfl)
  | ((with_reducible apply fin_o); · exact rfl)
  | ((with_reducible apply fin_n); · exact rfl)
  | ((with_reducible apply fin_x); · exact rfl)
  | ((with_reducible apply wp_zip); · exact rfl
     · exact rfl)
  | ((with_reducible apply wp_enum); · exact rfl)
  | ((with_reducible apply wp_neSame); · decide +kernel)
  | ((with_reducible apply wp_eqSame); · decide +kernel)
  | ((with_reducible apply wp_eq); · exact rfl)
  | ((with_reducible apply wp_ne); · exact rfl)
  | ((with_reducible apply wp_pow); · decide)
  | ((with_reducible apply wp_at); · exact rfl
     · exact rfl)
  | ((with_reducible apply wp_atS); · exact rfl
     · exact rfl)
  | ((with_reducible apply wp_isX); · exact rfl)
  | ((with_reducible apply wp_addL); · (show _ ≤ (16777216 : Nat); first | (simp; done) | (simp; omega) | omega))
  | ((with_reducible apply wp_addT); · (show _ ≤ (16777216 : Nat); first | (simp; done) | (simp; omega) | omega))
  | ((with_reducible apply plainP); · first | exact rfl | assumption)
  | ((with_reducible apply asgP); · exact rfl)
  | ((with_reducible apply someP); · exact rfl)
  | ((with_reducible apply ws_app); · exact rfl)
  | ((with_reducible apply appP); · exact rfl
     · (show _ < (16777216 : Nat); first | (simp; done) | (simp; omega) | omega))
  | ((with_reducible apply ws_putAt); · exact rfl
     · exact rfl)
  | ((with_reducible apply ws_forC); · exact rfl)
  | ((with_reducible apply wp_lcVO); · exact rfl
     · exact rfl)
  | ((with_reducible apply wp_lcVD); · exact rfl)
  | ((with_reducible apply wp_splitF); · exact rfl)
  | ((with_reducible apply wp_joinF); · exact rfl
     · exact rfl
     · decide)
  | ((with_reducible apply ws_ifT); · exact rfl)
  | ((with_reducible apply ws_ifF); · exact rfl)
  | ((with_reducible apply wp_ifT); · exact rfl)
  | ((with_reducible apply wp_ifF); · exact rfl))
local macro_rules | `(tactic| walk_at "dl") => `(tactic| repeat (first | walk_at "dl1" | walk_at "dl2"))
-- DLEND
def mTail : MS := (seqS (asgT (tupN 6 (consT (nameT 12) (consT (nameT 13) (consT (nameT 14) (consT (nameT 15) (consT (nameT 16) (consT (nameT 17) (nilT)))))))) (toD (callM f__law_known nilV))) (seqS (asgT (tupN 2 (consT (nameT 18) (consT (nameT 19) (nilT)))) (tupE (consA (tupE (consA (tupE (consA (constE (.int 1)) (consA (un1 negF (constE (.int 1))) (nilA)))) (consA (tupE (consA (un1 negF (constE (.int 1))) (consA (constE (.int 1)) (nilA)))) (nilA)))) (consA (tupE (consA (tupE (consA (constE (.int 2)) (consA (constE (.int 1)) (nilA)))) (consA (tupE (consA (constE (.int 1)) (consA (constE (.int 2)) (nilA)))) (nilA)))) (nilA))))) (seqS (asgS 20 (lstO (consA (toD (callM f_all_single (consV (varE 12) (consV (varE 12) (nilV))))) (consA (toD (callM f_all_single (consV (varE 18) (consV (varE 19) (nilV))))) (consA (toD (callM f_all_single (consV (tupE (consA (tupE (consA (constE (.int 2)) (consA (un1 negF (constE (.int 1))) (nilA)))) (consA (tupE (consA (un1 negF (constE (.int 1))) (consA (constE (.int 2)) (nilA)))) (nilA)))) (consV (tupE (consA (tupE (consA (constE (.int 3)) (consA (constE (.int 1)) (nilA)))) (consA (tupE (consA (constE (.int 1)) (consA (constE (.int 3)) (nilA)))) (nilA)))) (nilV))))) (nilA)))))) (seqS (ifS (tB (bin2 neF (varE 20) (toD (lstO (consA (constE (.bl true)) (consA (constE (.bl false)) (consA (constE (.bl true)) (nilA)))))))) (retS (ofD (constE (.bl false)))) (nextS)) (seqS (ifS (tB (bin2 neF (toD (callM f_first_bad (consV (varE 18) (consV (varE 19) (nilV))))) (varE 18))) (retS (ofD (constE (.bl false)))) (nextS)) (seqS (ifS (tB (bin2 neF (toD (callM f_first_bad (consV (varE 12) (consV (tupE (consA (tupE (consA (constE (.int 2)) (consA (constE (.int 4)) (nilA)))) (consA (tupE (consA (constE (.int 1)) (consA (constE (.int 2)) (nilA)))) (nilA)))) (nilV))))) (tupE (consA (tupE (consA (constE (.int 2)) (consA (constE (.int 4)) (nilA)))) (consA (tupE (consA (constE (.int 1)) (consA (constE (.int 2)) (nilA)))) (nilA)))))) (retS (ofD (constE (.bl false)))) (nextS)) (seqS (ifS (tB (bin2 isNotF (toD (callM f_first_bad (consV (varE 12) (consV (varE 12) (nilV))))) (constE .non))) (retS (ofD (constE (.bl false)))) (nextS)) (seqS (ifS (tB (bin2 neF (toD (callM f_first_bad (consV (tupE (consA (tupE (consA (constE (.int 2)) (consA (un1 negF (constE (.int 3))) (nilA)))) (consA (tupE (consA (un1 negF (constE (.int 3))) (consA (constE (.int 2)) (nilA)))) (nilA)))) (consV (tupE (consA (tupE (consA (constE (.int 9)) (consA (constE (.int 3)) (nilA)))) (consA (tupE (consA (constE (.int 3)) (consA (constE (.int 9)) (nilA)))) (nilA)))) (nilV))))) (tupE (consA (tupE (consA (constE (.int 2)) (consA (un1 negF (constE (.int 3))) (nilA)))) (consA (tupE (consA (un1 negF (constE (.int 3))) (consA (constE (.int 2)) (nilA)))) (nilA)))))) (retS (ofD (constE (.bl false)))) (nextS)) (retS (callM f_all_single (consV (tupE (consA (tupE (consA (constE (.int 9)) (consA (un1 negF (constE (.int 9))) (consA (constE (.int 0)) (nilA))))) (consA (tupE (consA (constE (.int 0)) (consA (constE (.int 9)) (consA (un1 negF (constE (.int 9))) (nilA))))) (consA (tupE (consA (constE (.int 0)) (consA (constE (.int 0)) (consA (constE (.int 9)) (nilA))))) (nilA))))) (consV (tupE (consA (tupE (consA (constE (.int 9)) (consA (constE (.int 9)) (consA (constE (.int 9)) (nilA))))) (consA (tupE (consA (constE (.int 0)) (consA (constE (.int 9)) (consA (constE (.int 9)) (nilA))))) (consA (tupE (consA (constE (.int 0)) (consA (constE (.int 0)) (consA (constE (.int 9)) (nilA))))) (nilA))))) (nilV)))))))))))))
theorem tail_ok (S a1 a2 a3 a4 a5 a6 a7 a8 a9 a10 a11 a12 a13 a14 a15 a16 a17 a18 a19 a20 : Option SV) :
    (mTail [S, a1, a2, a3, a4, a5, a6, a7, a8, a9, a10, a11, a12, a13, a14, a15, a16, a17, a18, a19, a20, none]).good = true ∧ (match (mTail [S, a1, a2, a3, a4, a5, a6, a7, a8, a9, a10, a11, a12, a13, a14, a15, a16, a17, a18, a19, a20, none]).fl with
      | .ret (.d (.bl b)) => b
      | _ => false) = true ∧ (mTail [S, a1, a2, a3, a4, a5, a6, a7, a8, a9, a10, a11, a12, a13, a14, a15, a16, a17, a18, a19, a20, none]).env[0]? = some S := by
  refine ⟨by kernel_rfl, by kernel_rfl, by kernel_rfl⟩
end K08
set_option maxHeartbeats 4000000
namespace K08
open PySem PySem.Spec L2 DL
-- DLMAC
local macro_rules | `(tactic| walk_at "dl1") => `(tactic| with_reducible first
  | refine ws_seq ?_ | refine seq_n ?_ | refine seq_r ?_ | refine seq_x ?_ | refine ws_asg ?_ | refine ws_ret ?_ | refine ws_if ?_ | refine ws_ift ?_ | refine ws_iff ?_ | refine ws_next ?_
  | refine wp_const ?_ | refine wp_ret ?_ | refine wp_yes ?_ | refine wp_toD ?_ | refine td_d ?_ | refine td_o ?_ | refine wp_ofD ?_ | refine wp_bin2 ?_ | refine wp_un1 ?_ | refine wp_nilA ?_ | refine wp_consA ?_ | refine wp_tup ?_ | refine wp_lst ?_
  | refine wp_tB ?_ | refine tbP ?_ | refine wp_notT ?_ | refine wp_andT ?_ | refine wp_orT ?_ | refine wp_iteM ?_ | refine wp_andE ?_ | refine wp_orE ?_ | refine wp_notE ?_ | refine wp_ift ?_ | refine wp_iff ?_ | refine wp_chain2 ?_
  | refine wp_call ?_ | refine wp_nilV ?_ | refine wp_consV ?_ | refine wp_isi ?_ | refine wp_isi2 ?_ | refine wp_lc ?_ | refine wp_seqI ?_ | refine wp_slO ?_ | refine wp_noPart ?_ | refine wp_part ?_ | refine wp_intO ?_ | refine wp_slT ?_ | refine wp_slL ?_
  | refine wp_neg ?_ | refine wp_sub ?_ | refine wp_add ?_ | refine wp_cmp ?_ | refine wp_eqI ?_ | refine wp_neI ?_ | refine wp_is ?_ | refine wp_isNot ?_ | refine wp_lenT ?_ | refine wp_lenL ?_
  | refine wp_absF ?_ | refine wp_intF ?_ | refine wp_intB ?_ | refine wp_allM ?_ | refine wp_anyM ?_ | refine wp_tupT ?_ | refine wp_tupL ?_ | refine wp_listT ?_ | refine wp_listL ?_ | refine wp_max ?_ | refine wp_min ?_
  | refine ws_asgT ?_ | refine ws_par ?_ | refine ws_par3 ?_ | refine ws_parO ?_ | refine ws_retN ?_ | refine ws_drop ?_ | refine ws_brk ?_ | refine ws_cont ?_ | refine ws_raise ?_ | refine ws_for ?_ | refine ws_for0 ?_ | refine forP_n ?_ | refine forP_r ?_ | refine lp_n ?_ | refine lp_c ?_ | refine lp_b ?_ | refine lp_r ?_ | refine lp_x ?_ | refine ws_while ?_
  | refine itemsT ?_ | refine itemsL ?_ | refine parP ?_ | refine par3P ?_ | refine ws_put ?_ | refine wp_zipL ?_ | refine wp_join ?_ | refine joinP ?_ | refine wp_split ?_ | refine splitP ?_
  | refine wp_try ?_ | refine tryV_d ?_ | refine tryV_o ?_ | refine wp_bnd ?_ | refine ws_bnd ?_)
local macro_rules | `(tactic| walk_at "dl2") => `(tactic| first
  | ((with_reducible apply wp_var); · exact rfl)
  | ((with_reducible apply wp_varO); · exact rfl)
  | ((with_reducible apply wp_take); · exact rfl)
  | ((with_reducible apply wp_takeO); · exact rfl)
  | ((with_reducible apply lenP); · (show _ ≤ (16777216 : Nat); simp; done))
  | ((with_reducible apply wp_lenD); · exact rfl)
  | ((with_reducible apply wp_lenV); · exact rfl)
  | ((with_reducible apply wp_ixV); · exact rfl)
  | ((with_reducible apply wp_atD); · exact rfl)
  | ((with_reducible apply wp_consL); · exact rfl)
  | ((with_reducible apply wp_in); · exact rfl
     · exact rfl)
  | ((with_reducible apply fin_d); · exact rfl)
  | ((with_reducible apply fin_o); · exact rfl)
  | ((with_reducible apply fin_n); · exact rfl)
  | ((with_reducible apply fin_x); · exact rfl)
  | ((with_reducible apply wp_zip); · exact rfl
     · exact rfl)
  | ((with_reducible apply wp_enum); · exact rfl)
  | ((with_reducible apply wp_neSame); · decide +kernel)
  | ((with_reducible apply wp_eqSame); · decide +kernel)
  | ((with_reducible apply wp_eq); · exact rfl)
  | ((with_reducible apply wp_ne); · exact rfl)
  | ((with_reducible apply wp_pow); · decide)
  | ((with_reducible apply wp_at); · exact rfl
     · exact rfl)
  | ((with_reducible apply wp_atS); · exact rfl
     · exact rfl)
  | ((with_reducible apply wp_isX); · exact rfl)
  | ((with_reducible apply wp_addL); · (show _ ≤ (16777216 : Nat); first | (simp; done) | (simp; omega) | omega))
  | ((with_reducible apply wp_addT); · (show _ ≤ (16777216 : Nat); first | (simp; done) | (simp; omega) | omega))
  | ((with_reducible apply plainP); · first | exact rfl | assumption)
  | ((with_reducible apply asgP); · exact rfl)
  | ((with_reducible apply someP); · exact rfl)
  | ((with_reducible apply ws_app); · exact rfl)
  | ((with_reducible apply appP); · exact rfl
     · (show _ < (16777216 : Nat); first | (simp; done) | (simp; omega) | omega))
  | ((with_reducible apply ws_putAt); · exact rfl
     · exact rfl)
  | ((with_reducible apply ws_forC); · exact rfl)
  | ((with_reducible apply wp_lcVO); · exact rfl
     · exact rfl)
  | ((with_reducible apply wp_lcVD); · exact rfl)
  | ((with_reducible apply wp_splitF); · exact rfl)
  | ((with_reducible apply wp_joinF); · exact rfl
     · exact rfl
     · decide)
  | ((with_reducible apply ws_ifT); · exact rfl)
  | ((with_reducible apply ws_ifF); · exact rfl)
  | ((with_reducible apply wp_ifT); · exact rfl)
  | ((with_reducible apply wp_ifF); · exact rfl))
local macro_rules | `(tactic| walk_at "dl") => `(tactic| repeat (first | walk_at "dl1" | walk_at "dl2"))
-- DLEND
def mManyD : MS := mMany
def mFnD : MS := mFn
def mCell : MS := seqS (asgS 2 (callM f__law_deck (consV (varE 1) (consV (constE (.int 8)) (nilV))))) (seqS (forS (seqI (toD (lstO (consA (constE (.int 1)) (consA (constE (.int 2)) (consA (constE (.int 2)) (consA (constE (.int 3)) (nilA)))))))) (nameT 3) mManyD) (forS (seqI (tupE (consA (constE (.fn "all_single")) (consA (constE (.fn "first_bad")) (nilA))))) (nameT 9) mFnD))
theorem law_eq : m_law = seqS (forS (seqI (toD (slO (toD (bin2 addF (toD (lstO (consA (constE (.int 0)) (nilA)))) (varE 0))) (noPart) (part (constE (.int 10)))))) (nameT 1) mCell) mTail := rfl
theorem cell_ok {S a2 a3 a4 a5 a6 a7 a8 a9 a10 a11 a12 a13 a14 a15 a16 a17 a18 a19 a20 : Option SV} {j : Int} {Q : Fl → Ev → Prop}
    (q : ∀ b2 b3 b4 b5 b6 b7 b8 b9 b10 b11, Q .next [S, some (.d (.int j)), b2, b3, b4, b5, b6, b7, b8, b9, b10, b11, a12, a13, a14, a15, a16, a17, a18, a19, a20, none]) :
    WS mCell [S, some (.d (.int j)), a2, a3, a4, a5, a6, a7, a8, a9, a10, a11, a12, a13, a14, a15, a16, a17, a18, a19, a20, none] Q := by
  obtain ⟨d0, e0, k0⟩ := deck8 j
  unfold mCell
  walk_at "dl"
  refine cp2 e0 ?_
  walk_at "dl"
  refine many_ok (n := 1) (by decide) (by decide) k0 (by decide) fun d1 P1 b6 b7 b8 k1 _ => ?_
  walk_at "dl"
  refine many_ok (n := 2) (by decide) (by decide) k1 (by decide) fun d2 P2 b6 b7 b8 k2 _ => ?_
  walk_at "dl"
  refine many_ok (n := 2) (by decide) (by decide) k2 (by decide) fun d3 P3 b6 b7 b8 k3 _ => ?_
  walk_at "dl"
  refine many_ok (n := 3) (by decide) (by decide) k3 (by decide) fun d4 P4 b6 b7 b8 k4 hP => ?_
  obtain ⟨tL, tH, lo⟩ := hP.ok (by decide) (by decide)
  walk_at "dl"
  refine fn_ok (nm := "all_single") rfl tL tH fun b10 b11 => ?_
  walk_at "dl"
  refine fn_ok (nm := "first_bad") rfl tL tH fun b10 b11 => ?_
  walk_at "dl"
  exact q _ _ _ _ _ _ _ _ _ _
theorem law_told (ns : List Int) (h : ns.length + 1 ≤ mx) : f_law [.d (.lst (ns.map .int))] = ⟨.ok (.d (.bl true)), [], true⟩ := by
  refine run_eq ?_
  rw [law_eq]
  walk_at "dl"
  refine wp_addL (by rw [List.length_singleton, List.length_map]; omega) ?_
  walk_at "dl"
  refine ws_forI (fun i e => ∃ a1 a2 a3 a4 a5 a6 a7 a8 a9 a10 a11 a12 a13 a14 a15 a16 a17 a18 a19 a20, e = [some (.d (.lst (ns.map .int))), a1, a2, a3, a4, a5, a6, a7, a8, a9, a10, a11, a12, a13, a14, a15, a16, a17, a18, a19, a20, none]) ⟨_, _, _, _, _, _, _, _, _, _, _, _, _, _, _, _, _, _, _, _, rfl⟩ (fun i d e hd hI => ?_) (fun e hI => ?_)
  · obtain ⟨a1, a2, a3, a4, a5, a6, a7, a8, a9, a10, a11, a12, a13, a14, a15, a16, a17, a18, a19, a20, rfl⟩ := hI
    have hm : d ∈ [D.int 0] ++ ns.map .int := List.mem_of_mem_drop (List.mem_of_mem_take (List.mem_of_getElem? hd))
    obtain ⟨j, rfl⟩ : ∃ j, d = .int j := by
      rcases List.mem_cons.mp hm with z | z
      · exact ⟨0, z⟩
      · obtain ⟨j, _, z⟩ := List.mem_map.mp z
        exact ⟨j, z.symm⟩
    refine ⟨_, rfl, ?_⟩
    refine cell_ok fun b2 b3 b4 b5 b6 b7 b8 b9 b10 b11 => ?_
    exact ⟨_, _, _, _, _, _, _, _, _, _, _, _, _, _, _, _, _, _, _, _, rfl⟩
  · obtain ⟨a1, a2, a3, a4, a5, a6, a7, a8, a9, a10, a11, a12, a13, a14, a15, a16, a17, a18, a19, a20, rfl⟩ := hI
    walk_at "dl"
    obtain ⟨t1, t2, t3⟩ := tail_ok (some (.d (.lst (ns.map .int)))) a1 a2 a3 a4 a5 a6 a7 a8 a9 a10 a11 a12 a13 a14 a15 a16 a17 a18 a19 a20
    generalize hm : mTail [some (.d (.lst (ns.map .int))), a1, a2, a3, a4, a5, a6, a7, a8, a9, a10, a11, a12, a13, a14, a15, a16, a17, a18, a19, a20, none] = o at t1 t2 t3
    obtain ⟨fl, e, g⟩ := o
    obtain rfl : g = true := t1
    refine ⟨fl, e, hm, ?_⟩
    cases fl with
    | ret v =>
      cases v with
      | d d =>
        cases d with
        | bl b =>
          obtain rfl : b = true := t2
          cases e with
          | nil => cases t3
          | cons x r => exact ⟨[], rfl, rfl, rfl⟩
        | _ => cases t2
      | own t xs => cases t2
    | _ => cases t2
end K08
set_option maxHeartbeats 0
namespace K08
open PySem PySem.Spec PyProof.Rows L2 DL
def hFns : List He.DefD := [dd_is_within, dd_is_row, dd_is_table_value, dd_need_table, dd_lots_of, dd_determinant, dd_minor_of, dd_is_single_value, dd_is_single, dd_need_bounds, dd_rows_within, dd_bad_table, dd_all_single, dd_first_bad, dd__law_deck, dd__law_pick, dd__law_one, dd__law_sort, dd__law_same, dd__law_kin, dd__law_try, dd__law_known, dd__law_bodies, dd__law_det, dd__law_part, dd__law_minor, dd__law_is_single, dd__law_a_single, dd__law_ends, dd__law_bounds, dd__law_between, dd_law]
def facts : List He.Fa := [.glo "is_within", .glo "is_row", .glo "is_table_value", .glo "need_table", .glo "lots_of", .glo "determinant", .glo "minor_of", .glo "is_single_value", .glo "is_single", .glo "need_bounds", .glo "rows_within", .glo "bad_table", .glo "all_single", .glo "first_bad", .glo "_law_deck", .glo "_law_pick", .glo "_law_one", .glo "_law_sort", .glo "_law_same", .glo "_law_kin", .glo "_law_try", .glo "_law_known", .glo "_law_bodies", .glo "_law_det", .glo "_law_part", .glo "_law_minor", .glo "_law_is_single", .glo "_law_a_single", .glo "_law_ends", .glo "_law_bounds", .glo "_law_between", .glo "law", .glo "GapError", .glo "InvalidTable", .glo "InvalidLoad", .glo "InvalidPushes", .glo "InvalidLot", .glo "InvalidBody", .glo "InvalidNumber", .glo "InvalidFacts", .glo "InvalidText", .glo "NotSingle", .glo "Unlike", .glo "NothingToUndo", .glo "TooMany", .free "ValueError", .free "abs", .free "all", .free "any", .free "bool", .free "enumerate", .free "int", .free "isinstance", .free "len", .free "list", .free "max", .free "min", .free "range", .free "set", .free "sorted", .free "str", .free "sum", .free "tuple", .free "zip", .int "MOST_BODIES" 3, .int "MOST_ENTRY" 9, .exc "InvalidTable", .exc "InvalidLoad", .exc "InvalidPushes", .exc "InvalidLot", .exc "InvalidBody", .exc "InvalidNumber", .exc "InvalidFacts", .exc "InvalidText", .exc "NotSingle", .exc "Unlike", .exc "NothingToUndo"]
def tfs : List He.Defn := [("law", none)]
def excCB (K : PySem.W.Frag) (D : Addr) : Bool := He.eqO (PySem.W.findIn K (.ref D) "__getattribute__") (some (some (.builtin "BaseException.__getattribute__"))) && (He.eqO (PySem.W.findIn K (.ref D) "__getattr__") (some none) && (decide (PySem.W.subIn K (.ref D) (.type "BaseException") = some true) && (PySem.W.hasDictIn K D && (He.eqO (PySem.W.findIn K (.ref D) "__class__") (some (some (.builtin "object.__class__"))) && (He.eqO (PySem.W.specialIn K (.builtin "object.__class__") "__get__") (some (some (.builtin "getset_descriptor.__get__"))) && (decide (PySem.W.takesIn K (.builtin "object.__class__") = some true) && decide (PySem.W.mroIn K D (.type "object") = some true)))))))
theorem excCB_ok {K : PySem.W.Frag} {D : Addr} (h : excCB K D = true) : ExcC K D := by
  obtain ⟨h1, h⟩ := He.ba h
  obtain ⟨h2, h⟩ := He.ba h
  obtain ⟨h3, h⟩ := He.ba h
  obtain ⟨h4, h⟩ := He.ba h
  obtain ⟨h5, h⟩ := He.ba h
  obtain ⟨h6, h⟩ := He.ba h
  obtain ⟨h7, h8⟩ := He.ba h
  exact ⟨He.eqO_ok h1, He.eqO_ok h2, of_decide_eq_true h3, h4, He.eqO_ok h5, He.eqO_ok h6, of_decide_eq_true h7, of_decide_eq_true h8⟩
def labs : List Str := ["InvalidTable", "InvalidLoad", "InvalidPushes", "InvalidLot", "InvalidBody", "InvalidNumber", "InvalidFacts", "InvalidText", "NotSingle", "Unlike", "NothingToUndo", "TooMany"]
def kins : List Str := ["InvalidTable"]
def kinB (K : PySem.W.Frag) (x : Str) : Bool := excCB K (He.ga K x) && (labs.all (fun y => decide (PySem.W.kitOne K (.ref (He.ga K x)) (.ref (He.ga K y)) = some (x == y))) && (decide (PySem.W.kitOne K (.ref (He.ga K x)) (.type "ValueError") = some true) && (decide (PySem.W.exmOne K (.ref (He.ga K x)) (.ref (He.ga K "TooMany")) = some false) && decide (PySem.W.exmOne K (.ref (He.ga K x)) (.ref (He.ga K "GapError")) = some true))))
def exB (K : PySem.W.Frag) : Bool := kins.all (kinB K)
theorem kinrow {K : PySem.W.Frag} (h : exB K = true) {x : Str} (hx : x ∈ kins) : KinRow K x := by
  obtain ⟨h1, h⟩ := He.ba (List.all_eq_true.mp h x hx)
  obtain ⟨h2, h⟩ := He.ba h
  obtain ⟨h3, h⟩ := He.ba h
  obtain ⟨h4, h5⟩ := He.ba h
  have k : ∀ y ∈ labs, PySem.W.kitOne K (.ref (He.ga K x)) (.ref (He.ga K y)) = some (x == y) := fun y hy => of_decide_eq_true (List.all_eq_true.mp h2 y hy)
  exact ⟨excCB_ok h1, k _ (by simp [labs]), k _ (by simp [labs]), k _ (by simp [labs]), k _ (by simp [labs]), k _ (by simp [labs]), k _ (by simp [labs]), k _ (by simp [labs]), k _ (by simp [labs]), k _ (by simp [labs]), k _ (by simp [labs]), k _ (by simp [labs]), k _ (by simp [labs]), of_decide_eq_true h3, of_decide_eq_true h4, of_decide_eq_true h5⟩
abbrev R : PySem.W.OpenRow := PySem.W.OpenLaw.row PySem.Challenge.rw_pushgaps_k08_whole_tables_within_bounds
abbrev hk : PySem.W.Hook := He.hookX 4 facts hFns [] tfs exB
def ob (s : PySem.W.SharedT) : He.AlX := He.obsX 4 facts hFns [] tfs exB (HandSHeadRun.getT s)
theorem ob_eq (s : PySem.W.SharedT) : ob s = hk.obs s.abs := He.obsX_eq (HandSHeadRun.getT_eq s)
def nm0 : List PySem.Str := ["GapError", "InvalidTable", "InvalidLoad", "InvalidPushes", "InvalidLot", "InvalidBody", "InvalidNumber", "InvalidFacts", "InvalidText", "NotSingle", "Unlike", "NothingToUndo", "TooMany", "MOST_BODIES", "MOST_ENTRY", "is_within", "is_row", "is_table_value", "need_table", "lots_of"]
def nm1 : List PySem.Str := ["determinant", "minor_of", "is_single_value", "is_single", "need_bounds", "rows_within", "bad_table", "all_single", "first_bad", "_law_deck", "_law_pick", "_law_one", "_law_sort", "_law_same", "_law_kin", "_law_try", "_law_known", "_law_bodies", "_law_det", "_law_part"]
def nm2 : List PySem.Str := ["_law_minor", "_law_is_single", "_law_a_single", "_law_ends", "_law_bounds", "_law_between"]
def nms : List PySem.Str := nm0 ++ nm1 ++ nm2
theorem run (w : World) : HandSHeadRun.RunEq R (PySem.W.view R.prog [50]) hk ob 6000 nms w := by
  intro os
  kernel_rfl
theorem fx_of {w : World} {h : Heap} {K : PySem.W.Frag} {mg : Str → Option Value} (X : K.In h) (G : h.Ns mainGlobals mg) (c : He.SaysX facts hFns [] tfs exB w h K) : Nonempty (Fx K mg) := by
  have fa : ∀ {f : He.Fa}, f ∈ facts → f.ok K = true := fun hf => He.SaysD.facts c.t.d hf
  obtain ⟨t_MOST_BODIES, i_MOST_BODIES⟩ := He.int_ok X G (fa (f := .int "MOST_BODIES" 3) (by simp [facts]))
  obtain ⟨t_MOST_ENTRY, i_MOST_ENTRY⟩ := He.int_ok X G (fa (f := .int "MOST_ENTRY" 9) (by simp [facts]))
  obtain ⟨fd_is_within, F_is_within⟩ := He.SaysD.def_ c.t.d 0 (d := dd_is_within) rfl
  obtain ⟨fd_is_row, F_is_row⟩ := He.SaysD.def_ c.t.d 1 (d := dd_is_row) rfl
  obtain ⟨fd_is_table_value, F_is_table_value⟩ := He.SaysD.def_ c.t.d 2 (d := dd_is_table_value) rfl
  obtain ⟨fd_need_table, F_need_table⟩ := He.SaysD.def_ c.t.d 3 (d := dd_need_table) rfl
  obtain ⟨fd_lots_of, F_lots_of⟩ := He.SaysD.def_ c.t.d 4 (d := dd_lots_of) rfl
  obtain ⟨fd_determinant, F_determinant⟩ := He.SaysD.def_ c.t.d 5 (d := dd_determinant) rfl
  obtain ⟨fd_minor_of, F_minor_of⟩ := He.SaysD.def_ c.t.d 6 (d := dd_minor_of) rfl
  obtain ⟨fd_is_single_value, F_is_single_value⟩ := He.SaysD.def_ c.t.d 7 (d := dd_is_single_value) rfl
  obtain ⟨fd_is_single, F_is_single⟩ := He.SaysD.def_ c.t.d 8 (d := dd_is_single) rfl
  obtain ⟨fd_need_bounds, F_need_bounds⟩ := He.SaysD.def_ c.t.d 9 (d := dd_need_bounds) rfl
  obtain ⟨fd_rows_within, F_rows_within⟩ := He.SaysD.def_ c.t.d 10 (d := dd_rows_within) rfl
  obtain ⟨fd_bad_table, F_bad_table⟩ := He.SaysD.def_ c.t.d 11 (d := dd_bad_table) rfl
  obtain ⟨fd_all_single, F_all_single⟩ := He.SaysD.def_ c.t.d 12 (d := dd_all_single) rfl
  obtain ⟨fd_first_bad, F_first_bad⟩ := He.SaysD.def_ c.t.d 13 (d := dd_first_bad) rfl
  obtain ⟨fd__law_deck, F__law_deck⟩ := He.SaysD.def_ c.t.d 14 (d := dd__law_deck) rfl
  obtain ⟨fd__law_pick, F__law_pick⟩ := He.SaysD.def_ c.t.d 15 (d := dd__law_pick) rfl
  obtain ⟨fd__law_one, F__law_one⟩ := He.SaysD.def_ c.t.d 16 (d := dd__law_one) rfl
  obtain ⟨fd__law_sort, F__law_sort⟩ := He.SaysD.def_ c.t.d 17 (d := dd__law_sort) rfl
  obtain ⟨fd__law_same, F__law_same⟩ := He.SaysD.def_ c.t.d 18 (d := dd__law_same) rfl
  obtain ⟨fd__law_kin, F__law_kin⟩ := He.SaysD.def_ c.t.d 19 (d := dd__law_kin) rfl
  obtain ⟨fd__law_try, F__law_try⟩ := He.SaysD.def_ c.t.d 20 (d := dd__law_try) rfl
  obtain ⟨fd__law_known, F__law_known⟩ := He.SaysD.def_ c.t.d 21 (d := dd__law_known) rfl
  obtain ⟨fd__law_bodies, F__law_bodies⟩ := He.SaysD.def_ c.t.d 22 (d := dd__law_bodies) rfl
  obtain ⟨fd__law_det, F__law_det⟩ := He.SaysD.def_ c.t.d 23 (d := dd__law_det) rfl
  obtain ⟨fd__law_part, F__law_part⟩ := He.SaysD.def_ c.t.d 24 (d := dd__law_part) rfl
  obtain ⟨fd__law_minor, F__law_minor⟩ := He.SaysD.def_ c.t.d 25 (d := dd__law_minor) rfl
  obtain ⟨fd__law_is_single, F__law_is_single⟩ := He.SaysD.def_ c.t.d 26 (d := dd__law_is_single) rfl
  obtain ⟨fd__law_a_single, F__law_a_single⟩ := He.SaysD.def_ c.t.d 27 (d := dd__law_a_single) rfl
  obtain ⟨fd__law_ends, F__law_ends⟩ := He.SaysD.def_ c.t.d 28 (d := dd__law_ends) rfl
  obtain ⟨fd__law_bounds, F__law_bounds⟩ := He.SaysD.def_ c.t.d 29 (d := dd__law_bounds) rfl
  obtain ⟨fd__law_between, F__law_between⟩ := He.SaysD.def_ c.t.d 30 (d := dd__law_between) rfl
  obtain ⟨fd_law, F_law⟩ := He.SaysD.def_ c.t.d 31 (d := dd_law) rfl
  exact ⟨{
    b_ValueError := He.free_ok X G (c.t.d.fact 45 (f := .free "ValueError") rfl)
    b_abs := He.free_ok X G (c.t.d.fact 46 (f := .free "abs") rfl)
    b_all := He.free_ok X G (c.t.d.fact 47 (f := .free "all") rfl)
    b_any := He.free_ok X G (c.t.d.fact 48 (f := .free "any") rfl)
    b_bool := He.free_ok X G (c.t.d.fact 49 (f := .free "bool") rfl)
    b_enumerate := He.free_ok X G (c.t.d.fact 50 (f := .free "enumerate") rfl)
    b_int := He.free_ok X G (c.t.d.fact 51 (f := .free "int") rfl)
    b_isinstance := He.free_ok X G (c.t.d.fact 52 (f := .free "isinstance") rfl)
    b_len := He.free_ok X G (c.t.d.fact 53 (f := .free "len") rfl)
    b_list := He.free_ok X G (c.t.d.fact 54 (f := .free "list") rfl)
    b_max := He.free_ok X G (c.t.d.fact 55 (f := .free "max") rfl)
    b_min := He.free_ok X G (c.t.d.fact 56 (f := .free "min") rfl)
    b_range := He.free_ok X G (c.t.d.fact 57 (f := .free "range") rfl)
    b_set := He.free_ok X G (c.t.d.fact 58 (f := .free "set") rfl)
    b_sorted := He.free_ok X G (c.t.d.fact 59 (f := .free "sorted") rfl)
    b_str := He.free_ok X G (c.t.d.fact 60 (f := .free "str") rfl)
    b_sum := He.free_ok X G (c.t.d.fact 61 (f := .free "sum") rfl)
    b_tuple := He.free_ok X G (c.t.d.fact 62 (f := .free "tuple") rfl)
    b_zip := He.free_ok X G (c.t.d.fact 63 (f := .free "zip") rfl)
    t_MOST_BODIES := t_MOST_BODIES
    i_MOST_BODIES := i_MOST_BODIES
    t_MOST_ENTRY := t_MOST_ENTRY
    i_MOST_ENTRY := i_MOST_ENTRY
    g_GapError := He.glo_ok X G (c.t.d.fact 32 (f := .glo "GapError") rfl)
    g_InvalidTable := He.glo_ok X G (c.t.d.fact 33 (f := .glo "InvalidTable") rfl)
    g_InvalidLoad := He.glo_ok X G (c.t.d.fact 34 (f := .glo "InvalidLoad") rfl)
    g_InvalidPushes := He.glo_ok X G (c.t.d.fact 35 (f := .glo "InvalidPushes") rfl)
    g_InvalidLot := He.glo_ok X G (c.t.d.fact 36 (f := .glo "InvalidLot") rfl)
    g_InvalidBody := He.glo_ok X G (c.t.d.fact 37 (f := .glo "InvalidBody") rfl)
    g_InvalidNumber := He.glo_ok X G (c.t.d.fact 38 (f := .glo "InvalidNumber") rfl)
    g_InvalidFacts := He.glo_ok X G (c.t.d.fact 39 (f := .glo "InvalidFacts") rfl)
    g_InvalidText := He.glo_ok X G (c.t.d.fact 40 (f := .glo "InvalidText") rfl)
    g_NotSingle := He.glo_ok X G (c.t.d.fact 41 (f := .glo "NotSingle") rfl)
    g_Unlike := He.glo_ok X G (c.t.d.fact 42 (f := .glo "Unlike") rfl)
    g_NothingToUndo := He.glo_ok X G (c.t.d.fact 43 (f := .glo "NothingToUndo") rfl)
    g_TooMany := He.glo_ok X G (c.t.d.fact 44 (f := .glo "TooMany") rfl)
    x_InvalidTable := He.exc_ok (c.t.d.fact 66 (f := .exc "InvalidTable") rfl)
    x_InvalidLoad := He.exc_ok (c.t.d.fact 67 (f := .exc "InvalidLoad") rfl)
    x_InvalidPushes := He.exc_ok (c.t.d.fact 68 (f := .exc "InvalidPushes") rfl)
    x_InvalidLot := He.exc_ok (c.t.d.fact 69 (f := .exc "InvalidLot") rfl)
    x_InvalidBody := He.exc_ok (c.t.d.fact 70 (f := .exc "InvalidBody") rfl)
    x_InvalidNumber := He.exc_ok (c.t.d.fact 71 (f := .exc "InvalidNumber") rfl)
    x_InvalidFacts := He.exc_ok (c.t.d.fact 72 (f := .exc "InvalidFacts") rfl)
    x_InvalidText := He.exc_ok (c.t.d.fact 73 (f := .exc "InvalidText") rfl)
    x_NotSingle := He.exc_ok (c.t.d.fact 74 (f := .exc "NotSingle") rfl)
    x_Unlike := He.exc_ok (c.t.d.fact 75 (f := .exc "Unlike") rfl)
    x_NothingToUndo := He.exc_ok (c.t.d.fact 76 (f := .exc "NothingToUndo") rfl)
    g_is_within := He.glo_ok X G (c.t.d.fact 0 (f := .glo "is_within") rfl)
    fd_is_within := fd_is_within
    F_is_within := F_is_within
    g_is_row := He.glo_ok X G (c.t.d.fact 1 (f := .glo "is_row") rfl)
    fd_is_row := fd_is_row
    F_is_row := F_is_row
    g_is_table_value := He.glo_ok X G (c.t.d.fact 2 (f := .glo "is_table_value") rfl)
    fd_is_table_value := fd_is_table_value
    F_is_table_value := F_is_table_value
    g_need_table := He.glo_ok X G (c.t.d.fact 3 (f := .glo "need_table") rfl)
    fd_need_table := fd_need_table
    F_need_table := F_need_table
    g_lots_of := He.glo_ok X G (c.t.d.fact 4 (f := .glo "lots_of") rfl)
    fd_lots_of := fd_lots_of
    F_lots_of := F_lots_of
    g_determinant := He.glo_ok X G (c.t.d.fact 5 (f := .glo "determinant") rfl)
    fd_determinant := fd_determinant
    F_determinant := F_determinant
    g_minor_of := He.glo_ok X G (c.t.d.fact 6 (f := .glo "minor_of") rfl)
    fd_minor_of := fd_minor_of
    F_minor_of := F_minor_of
    g_is_single_value := He.glo_ok X G (c.t.d.fact 7 (f := .glo "is_single_value") rfl)
    fd_is_single_value := fd_is_single_value
    F_is_single_value := F_is_single_value
    g_is_single := He.glo_ok X G (c.t.d.fact 8 (f := .glo "is_single") rfl)
    fd_is_single := fd_is_single
    F_is_single := F_is_single
    g_need_bounds := He.glo_ok X G (c.t.d.fact 9 (f := .glo "need_bounds") rfl)
    fd_need_bounds := fd_need_bounds
    F_need_bounds := F_need_bounds
    g_rows_within := He.glo_ok X G (c.t.d.fact 10 (f := .glo "rows_within") rfl)
    fd_rows_within := fd_rows_within
    F_rows_within := F_rows_within
    g_bad_table := He.glo_ok X G (c.t.d.fact 11 (f := .glo "bad_table") rfl)
    fd_bad_table := fd_bad_table
    F_bad_table := F_bad_table
    g_all_single := He.glo_ok X G (c.t.d.fact 12 (f := .glo "all_single") rfl)
    fd_all_single := fd_all_single
    F_all_single := F_all_single
    g_first_bad := He.glo_ok X G (c.t.d.fact 13 (f := .glo "first_bad") rfl)
    fd_first_bad := fd_first_bad
    F_first_bad := F_first_bad
    g__law_deck := He.glo_ok X G (c.t.d.fact 14 (f := .glo "_law_deck") rfl)
    fd__law_deck := fd__law_deck
    F__law_deck := F__law_deck
    g__law_pick := He.glo_ok X G (c.t.d.fact 15 (f := .glo "_law_pick") rfl)
    fd__law_pick := fd__law_pick
    F__law_pick := F__law_pick
    g__law_one := He.glo_ok X G (c.t.d.fact 16 (f := .glo "_law_one") rfl)
    fd__law_one := fd__law_one
    F__law_one := F__law_one
    g__law_sort := He.glo_ok X G (c.t.d.fact 17 (f := .glo "_law_sort") rfl)
    fd__law_sort := fd__law_sort
    F__law_sort := F__law_sort
    g__law_same := He.glo_ok X G (c.t.d.fact 18 (f := .glo "_law_same") rfl)
    fd__law_same := fd__law_same
    F__law_same := F__law_same
    g__law_kin := He.glo_ok X G (c.t.d.fact 19 (f := .glo "_law_kin") rfl)
    fd__law_kin := fd__law_kin
    F__law_kin := F__law_kin
    g__law_try := He.glo_ok X G (c.t.d.fact 20 (f := .glo "_law_try") rfl)
    fd__law_try := fd__law_try
    F__law_try := F__law_try
    g__law_known := He.glo_ok X G (c.t.d.fact 21 (f := .glo "_law_known") rfl)
    fd__law_known := fd__law_known
    F__law_known := F__law_known
    g__law_bodies := He.glo_ok X G (c.t.d.fact 22 (f := .glo "_law_bodies") rfl)
    fd__law_bodies := fd__law_bodies
    F__law_bodies := F__law_bodies
    g__law_det := He.glo_ok X G (c.t.d.fact 23 (f := .glo "_law_det") rfl)
    fd__law_det := fd__law_det
    F__law_det := F__law_det
    g__law_part := He.glo_ok X G (c.t.d.fact 24 (f := .glo "_law_part") rfl)
    fd__law_part := fd__law_part
    F__law_part := F__law_part
    g__law_minor := He.glo_ok X G (c.t.d.fact 25 (f := .glo "_law_minor") rfl)
    fd__law_minor := fd__law_minor
    F__law_minor := F__law_minor
    g__law_is_single := He.glo_ok X G (c.t.d.fact 26 (f := .glo "_law_is_single") rfl)
    fd__law_is_single := fd__law_is_single
    F__law_is_single := F__law_is_single
    g__law_a_single := He.glo_ok X G (c.t.d.fact 27 (f := .glo "_law_a_single") rfl)
    fd__law_a_single := fd__law_a_single
    F__law_a_single := F__law_a_single
    g__law_ends := He.glo_ok X G (c.t.d.fact 28 (f := .glo "_law_ends") rfl)
    fd__law_ends := fd__law_ends
    F__law_ends := F__law_ends
    g__law_bounds := He.glo_ok X G (c.t.d.fact 29 (f := .glo "_law_bounds") rfl)
    fd__law_bounds := fd__law_bounds
    F__law_bounds := F__law_bounds
    g__law_between := He.glo_ok X G (c.t.d.fact 30 (f := .glo "_law_between") rfl)
    fd__law_between := fd__law_between
    F__law_between := F__law_between
    g_law := He.glo_ok X G (c.t.d.fact 31 (f := .glo "law") rfl)
    fd_law := fd_law
    F_law := F_law }⟩
def kinW (x : Str) (a0 : Addr) : MS := m__law_kin a0 (x == ("InvalidTable" : Str)) (x == ("InvalidLoad" : Str)) (x == ("InvalidPushes" : Str)) (x == ("InvalidLot" : Str)) (x == ("InvalidBody" : Str)) (x == ("InvalidNumber" : Str)) (x == ("InvalidFacts" : Str)) (x == ("InvalidText" : Str)) (x == ("NotSingle" : Str)) (x == ("Unlike" : Str)) (x == ("NothingToUndo" : Str)) (x == ("TooMany" : Str)) true
-- DLMAC
local macro_rules | `(tactic| walk_at "dl1") => `(tactic| with_reducible first
  | refine ws_seq ?_ | refine seq_n ?_ | refine seq_r ?_ | refine seq_x ?_ | refine ws_asg ?_ | refine ws_ret ?_ | refine ws_if ?_ | refine ws_ift ?_ | refine ws_iff ?_ | refine ws_next ?_
  | refine wp_const ?_ | refine wp_ret ?_ | refine wp_yes ?_ | refine wp_toD ?_ | refine td_d ?_ | refine td_o ?_ | refine wp_ofD ?_ | refine wp_bin2 ?_ | refine wp_un1 ?_ | refine wp_nilA ?_ | refine wp_consA ?_ | refine wp_tup ?_ | refine wp_lst ?_
  | refine wp_tB ?_ | refine tbP ?_ | refine wp_notT ?_ | refine wp_andT ?_ | refine wp_orT ?_ | refine wp_iteM ?_ | refine wp_andE ?_ | refine wp_orE ?_ | refine wp_notE ?_ | refine wp_ift ?_ | refine wp_iff ?_ | refine wp_chain2 ?_
  | refine wp_call ?_ | refine wp_nilV ?_ | refine wp_consV ?_ | refine wp_isi ?_ | refine wp_isi2 ?_ | refine wp_lc ?_ | refine wp_seqI ?_ | refine wp_slO ?_ | refine wp_noPart ?_ | refine wp_part ?_ | refine wp_intO ?_ | refine wp_slT ?_ | refine wp_slL ?_
  | refine wp_neg ?_ | refine wp_sub ?_ | refine wp_add ?_ | refine wp_cmp ?_ | refine wp_eqI ?_ | refine wp_neI ?_ | refine wp_is ?_ | refine wp_isNot ?_ | refine wp_lenT ?_ | refine wp_lenL ?_
  | refine wp_absF ?_ | refine wp_intF ?_ | refine wp_intB ?_ | refine wp_allM ?_ | refine wp_anyM ?_ | refine wp_tupT ?_ | refine wp_tupL ?_ | refine wp_listT ?_ | refine wp_listL ?_ | refine wp_max ?_ | refine wp_min ?_
  | refine ws_asgT ?_ | refine ws_par ?_ | refine ws_par3 ?_ | refine ws_parO ?_ | refine ws_retN ?_ | refine ws_drop ?_ | refine ws_brk ?_ | refine ws_cont ?_ | refine ws_raise ?_ | refine ws_for ?_ | refine ws_for0 ?_ | refine forP_n ?_ | refine forP_r ?_ | refine lp_n ?_ | refine lp_c ?_ | refine lp_b ?_ | refine lp_r ?_ | refine lp_x ?_ | refine ws_while ?_
  | refine itemsT ?_ | refine itemsL ?_ | refine parP ?_ | refine par3P ?_ | refine ws_put ?_ | refine wp_zipL ?_ | refine wp_join ?_ | refine joinP ?_ | refine wp_split ?_ | refine splitP ?_
  | refine wp_try ?_ | refine tryV_d ?_ | refine tryV_o ?_ | refine wp_bnd ?_ | refine ws_bnd ?_)
local macro_rules | `(tactic| walk_at "dl2") => `(tactic| first
  | ((with_reducible apply wp_var); · exact rfl)
  | ((with_reducible apply wp_varO); · exact rfl)
  | ((with_reducible apply wp_take); · exact rfl)
  | ((with_reducible apply wp_takeO); · exact rfl)
  | ((with_reducible apply lenP); · (show _ ≤ (16777216 : Nat); simp; done))
  | ((with_reducible apply wp_lenD); · exact rfl)
  | ((with_reducible apply wp_lenV); · exact rfl)
  | ((with_reducible apply wp_ixV); · exact rfl)
  | ((with_reducible apply wp_atD); · exact rfl)
  | ((with_reducible apply wp_consL); · exact rfl)
  | ((with_reducible apply wp_in); · exact rfl
     · exact rfl)
  | ((with_reducible apply fin_d); · exact rfl)
  | ((with_reducible apply fin_o); · exact rfl)
  | ((with_reducible apply fin_n); · exact rfl)
  | ((with_reducible apply fin_x); · exact rfl)
  | ((with_reducible apply wp_zip); · exact rfl
     · exact rfl)
  | ((with_reducible apply wp_enum); · exact rfl)
  | ((with_reducible apply wp_neSame); · decide +kernel)
  | ((with_reducible apply wp_eqSame); · decide +kernel)
  | ((with_reducible apply wp_eq); · exact rfl)
  | ((with_reducible apply wp_ne); · exact rfl)
  | ((with_reducible apply wp_pow); · decide)
  | ((with_reducible apply wp_at); · exact rfl
     · exact rfl)
  | ((with_reducible apply wp_atS); · exact rfl
     · exact rfl)
  | ((with_reducible apply wp_isX); · exact rfl)
  | ((with_reducible apply wp_addL); · (show _ ≤ (16777216 : Nat); first | (simp; done) | (simp; omega) | omega))
  | ((with_reducible apply wp_addT); · (show _ ≤ (16777216 : Nat); first | (simp; done) | (simp; omega) | omega))
  | ((with_reducible apply plainP); · first | exact rfl | assumption)
  | ((with_reducible apply asgP); · exact rfl)
  | ((with_reducible apply someP); · exact rfl)
  | ((with_reducible apply ws_app); · exact rfl)
  | ((with_reducible apply appP); · exact rfl
     · (show _ < (16777216 : Nat); first | (simp; done) | (simp; omega) | omega))
  | ((with_reducible apply ws_putAt); · exact rfl
     · exact rfl)
  | ((with_reducible apply ws_forC); · exact rfl)
  | ((with_reducible apply wp_lcVO); · exact rfl
     · exact rfl)
  | ((with_reducible apply wp_lcVD); · exact rfl)
  | ((with_reducible apply wp_splitF); · exact rfl)
  | ((with_reducible apply wp_joinF); · exact rfl
     · exact rfl
     · decide)
  | ((with_reducible apply ws_ifT); · exact rfl)
  | ((with_reducible apply ws_ifF); · exact rfl)
  | ((with_reducible apply wp_ifT); · exact rfl)
  | ((with_reducible apply wp_ifF); · exact rfl))
local macro_rules | `(tactic| walk_at "dl") => `(tactic| repeat (first | walk_at "dl1" | walk_at "dl2"))
-- DLEND

theorem kin_InvalidTable (a0 : Addr) : runDef 5 (kinW "InvalidTable" a0) [.d (.obj a0)] = ⟨.ok (.d (.str "table +")), [], true⟩ := by
  refine run_eq ?_
  unfold kinW m__law_kin
  walk_at "dl"
  refine wp_val (x := .own 0 [.str "table", .str "+"]) (by kernel_rfl) (by kernel_rfl) ?_
  walk_at "dl"
  exact ⟨[], by kernel_rfl, rfl, rfl⟩
theorem kt_ok {P : Program} {w : World} {K : PySem.W.Frag} {mg : Str → Option Value} {base : Heap} {T : Tab} (G : Fx K mg) (h : exB K = true) : KtOk P w K mg base T 1 (He.fAd K ("_law_kin", none)) G.fd__law_kin "e" (He.ga K "TooMany") (He.ga K "GapError") kt := by
  intro nm txt hk
  unfold kt at hk
  by_cases h_InvalidTable : nm = "InvalidTable"
  · subst h_InvalidTable
    have R := kinrow h (x := "InvalidTable") (by simp [kins])
    have e : txt = "table +" := by first | simpa using hk.symm | exact (Option.some.inj hk).symm
    subst e
    exact ⟨_, G.g_InvalidTable, R.tm, R.ge, w__law_kin G "InvalidTable" "table +" R kin_InvalidTable⟩
  rw [if_neg h_InvalidTable] at hk
  cases hk
theorem law_at {w : World} {h : Heap} {K : PySem.W.Frag} {mg : Str → Option Value} {f : Addr} (X : K.In h) (G : h.Ns mainGlobals mg) (hfa : mg ("law" : Str) = some (.ref f)) (c : He.SaysX facts hFns [] tfs exB w h K) : LamX.LawAtS PySem.Challenge.rw_pushgaps_k08_whole_tables_within_bounds w K (L2N.CX (PySem.Challenge.rw_pushgaps_k08_whole_tables_within_bounds).prog w) 13 63 "script" mg f h := by
  obtain ⟨fx⟩ := fx_of X G c
  have e := hfa.symm.trans fx.g_law
  cases e
  have b := FunD.bindsA (ps := ["script"]) fx.F_law fun _ _ _ _ _ _ us hl => match us, hl with | [_], _ => rfl
  refine ⟨fx.fd_law, tfs.map (He.cT K), spF K mg [((He.cT K ("law", none)).2, (envOfC "law" (defScope st_law) 0 0 (.ref 0)).qual ++ "<lambda>")] 1 f_law, fun p hp => ?_, fun p hp => ?_, fun p hp => ?_, fun s v => b s [v] rfl, fun H a ns hl _ ht hS => ?_, fun base KX BG tb => ?_⟩
  · obtain ⟨q, hq, rfl⟩ := List.mem_map.mp hp
    exact c.empty q hq
  · obtain ⟨q, hq, rfl⟩ := List.mem_map.mp hp
    exact c.out q hq
  · obtain ⟨q, hq, rfl⟩ := List.mem_map.mp hp
    exact PySem.W.codeHd_of_K X (c.hd q hq)
  · refine sp_law hS (fun p hp => ?_) (law_told ns (Nat.le_trans (Nat.succ_le_succ hl) (by decide)))
    obtain ⟨q, hq, e⟩ : ∃ q ∈ tfs, p.1 = (He.cT K q).2 := by
      simp only [List.mem_cons, List.not_mem_nil, or_false] at hp
      subst hp; exact ⟨("law", none), by simp [tfs], rfl⟩
    exact ⟨#[], by rw [e]; exact ht _ (List.mem_map.mpr ⟨q, hq, rfl⟩), (by first | trivial | exact .nil | (intro a b h; simp at h)), fun _ _ z => by cases z⟩
  · exact w_law fx (kt_ok fx c.more) (tb _ (List.mem_map.mpr ⟨("law", none), by simp [tfs], rfl⟩)) (by simp) (fun p hp _ => by simp only [List.mem_cons, List.not_mem_nil, or_false] at hp; rw [hp])
end K08
open PySem PySem.W PySem.Calls PyProof.Rows
set_option maxHeartbeats 0 in
theorem PySem.Challenge.cw_pushgaps_k08_whole_tables_within_bounds_holds : PySem.Challenge.rw_pushgaps_k08_whole_tables_within_bounds.Holds := by
  w_on; o_law
  refine HandSHeadRun.head_any (r := OpenLaw.row PySem.Challenge.rw_pushgaps_k08_whole_tables_within_bounds) (q := view (OpenLaw.row PySem.Challenge.rw_pushgaps_k08_whole_tables_within_bounds).prog [50]) (H := K08.hk) (ob := K08.ob) (M := 6000) (loose := K08.nms) (d := HandSHeadRun.topDef (OpenLaw.row PySem.Challenge.rw_pushgaps_k08_whole_tables_within_bounds).prog 50) (kwd := []) K08.ob_eq
    (by kernel_rfl) (fun s => by kernel_rfl) K08.run (by kernel_rfl) (by kernel_rfl) (by kernel_rfl) (by rfl) (by first | assumption | decide +kernel) (by decide +kernel) ⟨rfl, rfl, rfl, rfl, rfl, by decide +kernel⟩ ?hw ?hc
  case hw => w_witness2
  case hc =>
    refine LamX.walk_ofTsE (l := PySem.Challenge.rw_pushgaps_k08_whole_tables_within_bounds) (n := 63) (k := 13) (x := "script") (CX := fun w => L2N.CX (PySem.Challenge.rw_pushgaps_k08_whole_tables_within_bounds).prog w) rfl (by decide) (by kernel_rfl) ⟨rfl, by decide, by decide⟩ ?F (fun w H s e s' z => by obtain ⟨_, _, _, _, _, _, _, _, _, _, _, _, z⟩ := z; exact z)
    intro w mg fa h Y G hmg0
    obtain ⟨K, KX, c⟩ := Y
    have hmg : mg ("law" : PySem.Str) = some (.ref fa) := by
      have e : (HandSHeadRun.topDef (OpenLaw.row PySem.Challenge.rw_pushgaps_k08_whole_tables_within_bounds).prog 50).name = ("law" : PySem.Str) := by kernel_rfl
      rw [← e]
      exact hmg0
    exact ⟨K, KX, K08.law_at KX G hmg c⟩
