import PyProof.Rows.All
import Wide.All
import OpenK.AllK
import Wide.FinOn
import PyProof.EqAt
import PyProof.EqKinds
import PyProof.TupleCall
import HandS.ForMost
import HandS.Exc
import HandS.TryOnly
import HandS.ExcOwn
import HandS.WordsExc
import HandS.HeadHook1
import HandS.HeadHook2
import HandS.Wide
import HandS.TupAny
import HandS.TupLe
import HandS.TupMul
import HandS.Style
import HandS.Flow
import HandS.IsInst
import HandS.Conv
import HandS.Deep
import PyProof.P3In
import HandS.RaiseMore
import HandS.ExcInit
import HandS.ExcField
import HandS.HotCalls
import HandS.ExcIs
import HandS.HeadEnd
import HandS.SetFor
import PyProof.ReprRoads
import HandS.Head0
import HandS.Head1
import HandS.Head2
import PyProof.ReprLen
import PyProof.ReprText
import PySem.Challenge.RW_noshortring_k17_bounds_by_growth
set_option Elab.async false
set_option linter.all false
set_option maxRecDepth 100000
set_option maxHeartbeats 1000000
/-! Nw: a reckoner over plain values and a numbered store, shown sound over the hand layer. -/
namespace Nw
open PySem PySem.Spec PyProof.Rows L2

/-- a plain value: tuples hold values, lists and the like are numbers of the store -/
inductive W where
  | non | bl (b : Bool) | int (i : Int) | str (x : Str) | tup (l : List W) | ref (k : Nat) | fn (x : Str) | exv (c : Str) (args : List W)
/-- what stands in the store -/
inductive O where
  | lst (l : List W) | fro (l : List W)
def O.mut : O → Bool
  | .lst _ => true
  | .fro _ => false
abbrev Mem := List O
structure Exn where
  cls : Str
  args : List W := []
/-- the fields of an own exception class -/
def exF (c : Str) : List Str := if c = "TooGreat" then ["many", "most"] else if c = "NoWeb" then ["number"] else if c = "NoText" then ["row"] else []
inductive Out (α : Type) where
  | ok (a : α) (m : Mem) | exc (e : Exn) (m : Mem) | bad
def Out.bind {α β : Type} (o : Out α) (f : α → Mem → Out β) : Out β := match o with
  | .ok a m => f a m
  | .exc e m => .exc e m
  | .bad => .bad
abbrev Env := List (Option W)
inductive Fl where
  | nx (env : Env) | rt (w : W) | bk (env : Env) | ct (env : Env)
inductive Ou where
  | fl (f : Fl) (m : Mem) | exc (e : Exn) (env : Env) (m : Mem) | bad
abbrev DE := Env → Mem → Out W
abbrev DT := Env → Mem → Out Bool
abbrev DA := Env → Mem → Out (List W)
abbrev DG := W → Env → Mem → Out Env
abbrev DS := Env → Mem → Ou

/-- the exception that a suite holds: its address, what it is, its class and its own dict -/
structure Hot where
  a : Addr
  e : Exn
  cls : Value
  d : Option Addr

mutual
inductive VR (K : PySem.W.Frag) (hot : Option Hot) (r : Nat → Addr) (n : Nat) (H : Hp) : W → V → Prop
  | non : VR K hot r n H .non .non
  | bl (b : Bool) : VR K hot r n H (.bl b) (.bl b)
  | int (i : Int) : VR K hot r n H (.int i) (.int i)
  | str (x : Str) : VR K hot r n H (.str x) (.str x)
  | tup {ws : List W} {a : Addr} {vs : List V} : SqT K H a vs → VRs K hot r n H ws vs → VR K hot r n H (.tup ws) (.ref a)
  | ref {k : Nat} : k < n → VR K hot r n H (.ref k) (.ref (r k))
  | fn (x : Str) : VR K hot r n H (.fn x) (.ref (He.ga K x))
  | exv {h : Hot} : hot = some h → VR K hot r n H (.exv h.e.cls h.e.args) (.ref h.a)
inductive VRs (K : PySem.W.Frag) (hot : Option Hot) (r : Nat → Addr) (n : Nat) (H : Hp) : List W → List V → Prop
  | nil : VRs K hot r n H [] []
  | cons {w : W} {ws : List W} {v : V} {vs : List V} : VR K hot r n H w v → VRs K hot r n H ws vs → VRs K hot r n H (w :: ws) (v :: vs)
end

/-- what never goes -/
def Solid : HO → Prop
  | .tup _ => True
  | .frz _ _ => True
  | .xd _ => True
  | _ => False
def Keep (H H' : Hp) : Prop := ∀ a o, Solid o → H a = some o → H' a = some o
theorem Keep.refl (H : Hp) : Keep H H := fun _ _ _ h => h
theorem Keep.trans {H H1 H2 : Hp} (a : Keep H H1) (b : Keep H1 H2) : Keep H H2 := fun x o s h => b x o s (a x o s h)
theorem Keep.sqT {K : PySem.W.Frag} {H H' : Hp} (k : Keep H H') {a : Addr} {vs : List V} (h : SqT K H a vs) : SqT K H' a vs := by
  rcases h with (h | ⟨o, h⟩) | h
  · exact .inl (.inl (k _ _ trivial h))
  · exact .inl (.inr ⟨o, k _ _ trivial h⟩)
  · exact .inr h
theorem Keep.new {H : Hp} {p : Addr} {o : HO} (h : H p = none) : Keep H (upd H p o) := fun a u _ e => by
  rw [upd_ne (ne_of_none e h)]
  exact e
theorem Keep.mut {H : Hp} {p : Addr} {o u : HO} (h : H p = some u) (hu : ¬ Solid u) : Keep H (upd H p o) := fun a t s e => by
  have ne : a ≠ p := fun z => by
    subst z
    rw [h] at e
    cases e
    exact hu s
  rw [upd_ne ne]
  exact e

section
variable {K : PySem.W.Frag} {hot : Option Hot} {r r' : Nat → Addr} {n n' : Nat} {H H' : Hp}
mutual
theorem VR.mono (k : Keep H H') (e : ∀ i, i < n → r' i = r i) (l : n ≤ n') : ∀ {w : W} {v : V}, VR K hot r n H w v → VR K hot r' n' H' w v
  | _, _, .non => .non
  | _, _, .bl b => .bl b
  | _, _, .int i => .int i
  | _, _, .str x => .str x
  | _, _, .tup h hs => .tup (k.sqT h) (VRs.mono k e l hs)
  | _, _, .ref (k := i) h => by
    rw [← e i h]
    exact .ref (Nat.lt_of_lt_of_le h l)
  | _, _, .fn x => .fn x
  | _, _, .exv h => .exv h
theorem VRs.mono (k : Keep H H') (e : ∀ i, i < n → r' i = r i) (l : n ≤ n') : ∀ {ws : List W} {vs : List V}, VRs K hot r n H ws vs → VRs K hot r' n' H' ws vs
  | _, _, .nil => .nil
  | _, _, .cons h hs => .cons (VR.mono k e l h) (VRs.mono k e l hs)
end
theorem VRs.length : ∀ {ws : List W} {vs : List V}, VRs K hot r n H ws vs → ws.length = vs.length
  | _, _, .nil => rfl
  | _, _, .cons _ h => congrArg (· + 1) h.length
theorem VRs.get : ∀ {ws : List W} {vs : List V} {i : Nat} {w : W}, VRs K hot r n H ws vs → ws[i]? = some w → ∃ v, vs[i]? = some v ∧ VR K hot r n H w v
  | _, _, _, _, .nil, e => by simp at e
  | _, _, 0, _, .cons h _, e => by simp at e; subst e; exact ⟨_, rfl, h⟩
  | _, _, i + 1, w, .cons _ h, e => by
    obtain ⟨v, h1, h2⟩ := VRs.get (i := i) (w := w) h (by simpa using e)
    exact ⟨v, by simpa using h1, h2⟩
theorem VRs.append : ∀ {ws us : List W} {vs xs : List V}, VRs K hot r n H ws vs → VRs K hot r n H us xs → VRs K hot r n H (ws ++ us) (vs ++ xs)
  | _, _, _, _, .nil, h => h
  | _, _, _, _, .cons a b, h => .cons a (VRs.append b h)
theorem VRs.take : ∀ {ws : List W} {vs : List V} (k : Nat), VRs K hot r n H ws vs → VRs K hot r n H (ws.take k) (vs.take k)
  | _, _, 0, _ => .nil
  | _, _, _ + 1, .nil => .nil
  | _, _, k + 1, .cons a b => .cons a (VRs.take k b)
theorem VRs.drop : ∀ {ws : List W} {vs : List V} (k : Nat), VRs K hot r n H ws vs → VRs K hot r n H (ws.drop k) (vs.drop k)
  | _, _, 0, h => h
  | _, _, _ + 1, .nil => .nil
  | _, _, k + 1, .cons _ b => VRs.drop k b
theorem VRs.set {w : W} {v : V} (h : VR K hot r n H w v) : ∀ {ws : List W} {vs : List V} (k : Nat), VRs K hot r n H ws vs → VRs K hot r n H (ws.set k w) (vs.set k v)
  | _, _, _, .nil => .nil
  | _, _, 0, .cons _ b => .cons h b
  | _, _, k + 1, .cons a b => .cons a (VRs.set h k b)
theorem VRs.reverse : ∀ {ws : List W} {vs : List V}, VRs K hot r n H ws vs → VRs K hot r n H ws.reverse vs.reverse
  | _, _, .nil => .nil
  | _, _, .cons a b => by
    rw [List.reverse_cons, List.reverse_cons]
    exact VRs.append (VRs.reverse b) (.cons a .nil)
end

/-- a list that nobody writes: the script's -/
def FzL (K : PySem.W.Frag) (H : Hp) (a : Addr) (vs : List V) : Prop := (∃ o, H a = some (.frz o (.lst vs))) ∨ SqL K (fun _ => none) a vs
theorem FzL.sq {K : PySem.W.Frag} {H : Hp} {a : Addr} {vs : List V} (h : FzL K H a vs) : SqL K H a vs := by
  rcases h with h | h
  · exact .inl (.inr h)
  · rcases h with h | h
    · rcases h with h | ⟨o, h⟩ <;> cases h
    · exact .inr h
theorem FzL.keep {K : PySem.W.Frag} {H H' : Hp} {a : Addr} {vs : List V} (k : Keep H H') (h : FzL K H a vs) : FzL K H' a vs := by
  rcases h with ⟨o, h⟩ | h
  · exact .inl ⟨o, k _ _ trivial h⟩
  · exact .inr h
def ObR (K : PySem.W.Frag) (hot : Option Hot) (r : Nat → Addr) (n : Nat) (H : Hp) (a : Addr) : O → Prop
  | .lst ws => ∃ vs, H a = some (.lst vs) ∧ VRs K hot r n H ws vs
  | .fro ws => ∃ vs, FzL K H a vs ∧ VRs K hot r n H ws vs
def ExR (K : PySem.W.Frag) (hot : Option Hot) (r : Nat → Addr) (n : Nat) (H : Hp) (e : Exn) (cls : Value) (d : Option Addr) : Prop :=
  cls = .ref (He.ga K e.cls) ∧ (e.args = [] → d = none) ∧
    (e.args ≠ [] → ∃ dd fs, d = some dd ∧ H dd = some (.xd fs) ∧ ∀ (i : Nat) (f : Str) (w : W), (exF e.cls)[i]? = some f → e.args[i]? = some w → ∃ v, fs.lookup f = some v ∧ VR K hot r n H w v)
structure Rep (K : PySem.W.Frag) (hot : Option Hot) (r : Nat → Addr) (m : Mem) (H : Hp) : Prop where
  ob : ∀ (k : Nat) (o : O), m[k]? = some o → ObR K hot r m.length H (r k) o
  inj : ∀ i j o u, m[i]? = some o → m[j]? = some u → o.mut = true → u.mut = true → r i = r j → i = j
  hx : ∀ h, hot = some h → ExR K hot r m.length H h.e h.cls h.d
structure Step (K : PySem.W.Frag) (hot : Option Hot) (r : Nat → Addr) (m : Mem) (H : Hp) (r' : Nat → Addr) (m' : Mem) (H' : Hp) : Prop where
  rep : Rep K hot r' m' H'
  ext : ∀ i, i < m.length → r' i = r i
  le : m.length ≤ m'.length
  kp : Keep H H'
section
variable {K : PySem.W.Frag} {hot : Option Hot} {r r1 r2 r' : Nat → Addr} {m m1 m2 m' : Mem} {H H1 H2 H' : Hp}
theorem Step.refl (R : Rep K hot r m H) : Step K hot r m H r m H := ⟨R, fun _ _ => rfl, Nat.le_refl _, Keep.refl _⟩
theorem Step.trans (a : Step K hot r m H r1 m1 H1) (b : Step K hot r1 m1 H1 r2 m2 H2) : Step K hot r m H r2 m2 H2 :=
  ⟨b.rep, fun i h => (b.ext i (Nat.lt_of_lt_of_le h a.le)).trans (a.ext i h), Nat.le_trans a.le b.le, a.kp.trans b.kp⟩
theorem Step.vr (a : Step K hot r m H r1 m1 H1) {w : W} {v : V} (h : VR K hot r m.length H w v) : VR K hot r1 m1.length H1 w v := h.mono a.kp a.ext a.le
theorem Step.vrs (a : Step K hot r m H r1 m1 H1) {w : List W} {v : List V} (h : VRs K hot r m.length H w v) : VRs K hot r1 m1.length H1 w v := h.mono a.kp a.ext a.le
end
/-- the slots -/
structure ER (K : PySem.W.Frag) (hot : Option Hot) (r : Nat → Addr) (n : Nat) (H : Hp) (env : Env) (s : L2.St) : Prop where
  len : env.length = s.length
  at_ : ∀ (i : Nat) (w : W), env[i]? = some (some w) → ∃ v, s[i]? = some (some v) ∧ VR K hot r n H w v
section
variable {K : PySem.W.Frag} {hot : Option Hot} {r r1 : Nat → Addr} {m m1 : Mem} {n : Nat} {H H1 : Hp} {env : Env} {s : L2.St}
theorem ER.step (E : ER K hot r m.length H env s) (a : Step K hot r m H r1 m1 H1) : ER K hot r1 m1.length H1 env s :=
  ⟨E.len, fun i w h => let ⟨v, h1, h2⟩ := E.at_ i w h; ⟨v, h1, a.vr h2⟩⟩
theorem ER.set (E : ER K hot r n H env s) {w : W} {v : V} (h : VR K hot r n H w v) (i : Nat) : ER K hot r n H (env.set i (some w)) (s.set i (some v)) := by
  refine ⟨by rw [List.length_set, List.length_set]; exact E.len, fun j u e => ?_⟩
  by_cases hj : i = j
  · subst hj
    have hi : i < env.length := by
      have := (List.getElem?_eq_some_iff.mp e).1
      simpa using this
    rw [List.getElem?_set_self hi] at e
    cases e
    exact ⟨v, by rw [List.getElem?_set_self (by rw [← E.len]; exact hi)], h⟩
  · rw [List.getElem?_set_ne hj] at e
    rw [List.getElem?_set_ne hj]
    exact E.at_ j u e
theorem ER.unset (E : ER K hot r n H env s) (i : Nat) : ER K hot r n H (env.set i none) (s.set i none) := by
  refine ⟨by rw [List.length_set, List.length_set]; exact E.len, fun j u e => ?_⟩
  by_cases hj : i = j
  · subst hj
    have hi : i < env.length := by
      have := (List.getElem?_eq_some_iff.mp e).1
      simpa using this
    rw [List.getElem?_set_self hi] at e
    cases e
  · rw [List.getElem?_set_ne hj] at e
    rw [List.getElem?_set_ne hj]
    exact E.at_ j u e
end

/-! ### what an outcome must give -/
def Wp (K : PySem.W.Frag) (hot : Option Hot) (X : WX) (s : L2.St) {α : Type} (r : Nat → Addr) (m : Mem) (H : Hp) (o : Out α) (R : α → (Nat → Addr) → Mem → Hp → Prop) : Prop := match o with
  | .ok a m' => ∀ r' H', Step K hot r m H r' m' H' → R a r' m' H'
  | .exc e m' => ∀ r' H' cls d, Step K hot r m H r' m' H' → ExR K hot r' m'.length H' e cls d → X cls d s H'
  | .bad => False
section
variable {K : PySem.W.Frag} {hot : Option Hot} {X : WX} {s : L2.St} {α β : Type} {r r1 : Nat → Addr} {m m1 : Mem} {H H1 : Hp}
theorem Wp.rebase {o : Out α} {R : α → (Nat → Addr) → Mem → Hp → Prop} (a : Step K hot r m H r1 m1 H1) (h : Wp K hot X s r m H o R) : Wp K hot X s r1 m1 H1 o R := by
  cases o with
  | ok x m' => exact fun r' H' b => h r' H' (a.trans b)
  | exc e m' => exact fun r' H' cls d b => h r' H' cls d (a.trans b)
  | bad => exact h
theorem Wp.imp {o : Out α} {R R' : α → (Nat → Addr) → Mem → Hp → Prop} (h : Wp K hot X s r m H o R) (k : ∀ a r' m' H', Step K hot r m H r' m' H' → R a r' m' H' → R' a r' m' H') : Wp K hot X s r m H o R' := by
  cases o with
  | ok x m' => exact fun r' H' b => k _ _ _ _ b (h r' H' b)
  | exc e m' => exact h
  | bad => exact h
theorem Wp.bind {o : Out α} {f : α → Mem → Out β} {R : β → (Nat → Addr) → Mem → Hp → Prop} (h : Wp K hot X s r m H (o.bind f) R) : Wp K hot X s r m H o fun a r1 m1 H1 => Wp K hot X s r1 m1 H1 (f a m1) R := by
  cases o with
  | ok x m' => exact fun r' H' b => Wp.rebase b h
  | exc e m' => exact h
  | bad => exact h
theorem Wp.now {a : α} {R : α → (Nat → Addr) → Mem → Hp → Prop} (I : Rep K hot r m H) (h : Wp K hot X s r m H (.ok a m) R) : R a r m H := h r H (Step.refl I)
end

def tE (K : PySem.W.Frag) (hot : Option Hot) (X : WX) (d : DE) : TE := fun s H Q => ∃ r m env, Rep K hot r m H ∧ ER K hot r m.length H env s ∧
  Wp K hot X s r m H (d env m) fun w r' m' H' => ∀ v, VR K hot r' m'.length H' w v → Q v H'
def tT (K : PySem.W.Frag) (hot : Option Hot) (X : WX) (d : DT) : TT := fun s H Q => ∃ r m env, Rep K hot r m H ∧ ER K hot r m.length H env s ∧
  Wp K hot X s r m H (d env m) fun b _ _ H' => Q b H'
def tA (K : PySem.W.Frag) (hot : Option Hot) (X : WX) (d : DA) : TA := fun s H Q => ∃ r m env, Rep K hot r m H ∧ ER K hot r m.length H env s ∧
  Wp K hot X s r m H (d env m) fun ws r' m' H' => ∀ vs, VRs K hot r' m'.length H' ws vs → Q vs H'
/-- a statement's outcome -/
def WpS (K : PySem.W.Frag) (hot : Option Hot) (X : WX) (r : Nat → Addr) (m : Mem) (H : Hp) (o : Ou) (D : Ends) : Prop := match o with
  | .fl (.nx env) m' => ∀ r' H' s', Step K hot r m H r' m' H' → ER K hot r' m'.length H' env s' → D.nx s' H'
  | .fl (.bk env) m' => ∀ r' H' s', Step K hot r m H r' m' H' → ER K hot r' m'.length H' env s' → D.bk s' H'
  | .fl (.ct env) m' => ∀ r' H' s', Step K hot r m H r' m' H' → ER K hot r' m'.length H' env s' → D.ct s' H'
  | .fl (.rt w) m' => ∀ r' H' v, Step K hot r m H r' m' H' → VR K hot r' m'.length H' w v → D.rt v H'
  | .exc e env m' => ∀ r' H' cls d s', Step K hot r m H r' m' H' → ER K hot r' m'.length H' env s' → ExR K hot r' m'.length H' e cls d → X cls d s' H'
  | .bad => False
def tS (K : PySem.W.Frag) (hot : Option Hot) (X : WX) (d : DS) : TS := fun D s H => ∃ r m env, Rep K hot r m H ∧ ER K hot r m.length H env s ∧ WpS K hot X r m H (d env m) D
section
variable {K : PySem.W.Frag} {hot : Option Hot} {X : WX} {r r1 : Nat → Addr} {m m1 : Mem} {H H1 : Hp} {D : Ends}
theorem WpS.rebase {o : Ou} (a : Step K hot r m H r1 m1 H1) (h : WpS K hot X r m H o D) : WpS K hot X r1 m1 H1 o D := by
  cases o with
  | fl f m' => cases f with
    | nx env => exact fun r' H' s' b => h r' H' s' (a.trans b)
    | rt w => exact fun r' H' s' b => h r' H' s' (a.trans b)
    | bk env => exact fun r' H' s' b => h r' H' s' (a.trans b)
    | ct env => exact fun r' H' s' b => h r' H' s' (a.trans b)
  | exc e env m' => exact fun r' H' cls d s' b => h r' H' cls d s' (a.trans b)
  | bad => exact h
end
end Nw
set_option Elab.async false
set_option linter.all false
set_option maxRecDepth 100000
set_option maxHeartbeats 1000000
namespace Nw
open PySem PySem.Spec PyProof.Rows L2

/-! ### steps of the store -/
section
variable {K : PySem.W.Frag} {hot : Option Hot} {r : Nat → Addr} {m : Mem} {H : Hp}
theorem ObR.mono {r' : Nat → Addr} {n n' : Nat} {H' : Hp} {a : Addr} {o : O} (k : Keep H H') (e : ∀ i, i < n → r' i = r i) (l : n ≤ n') (hs : o.mut = true → ∀ vs, H a = some (.lst vs) → H' a = some (.lst vs)) (h : ObR K hot r n H a o) : ObR K hot r' n' H' a o := by
  cases o with
  | lst ws =>
    obtain ⟨vs, h1, h2⟩ := h
    exact ⟨vs, hs rfl vs h1, h2.mono k e l⟩
  | fro ws =>
    obtain ⟨vs, h1, h2⟩ := h
    exact ⟨vs, h1.keep k, h2.mono k e l⟩
theorem ExR.mono {r' : Nat → Addr} {n n' : Nat} {H' : Hp} {e : Exn} {cls : Value} {d : Option Addr} (k : Keep H H') (ee : ∀ i, i < n → r' i = r i) (l : n ≤ n') (h : ExR K hot r n H e cls d) : ExR K hot r' n' H' e cls d := by
  obtain ⟨h1, h2, h3⟩ := h
  refine ⟨h1, h2, fun ne => ?_⟩
  obtain ⟨dd, fs, e1, e2, e3⟩ := h3 ne
  refine ⟨dd, fs, e1, k _ _ trivial e2, fun i f w hi hw => ?_⟩
  obtain ⟨v, q1, q2⟩ := e3 i f w hi hw
  exact ⟨v, q1, q2.mono k ee l⟩
/-- a thing that the store does not number comes -/
theorem Step.side (R : Rep K hot r m H) {p : Addr} {o : HO} (hp : H p = none) : Step K hot r m H r m (upd H p o) :=
  ⟨⟨fun k ob e => (R.ob k ob e).mono (Keep.new hp) (fun _ _ => rfl) (Nat.le_refl _) fun _ vs q => by rw [upd_ne (ne_of_none q hp)]; exact q, R.inj, fun h e => (R.hx h e).mono (Keep.new hp) (fun _ _ => rfl) (Nat.le_refl _)⟩,
    fun _ _ => rfl, Nat.le_refl _, Keep.new hp⟩
theorem Rep.lt (R : Rep K hot r m H) {k : Nat} {ws : List W} (h : m[k]? = some (.lst ws)) : ∃ vs, H (r k) = some (.lst vs) ∧ VRs K hot r m.length H ws vs := R.ob k _ h
/-- a new list -/
theorem Step.newL (R : Rep K hot r m H) {p : Addr} {ws : List W} {vs : List V} (hp : H p = none) (hv : VRs K hot r m.length H ws vs) :
    Step K hot r m H (fun k => if k = m.length then p else r k) (m ++ [.lst ws]) (upd H p (.lst vs)) := by
  have ext : ∀ i, i < m.length → (if i = m.length then p else r i) = r i := fun i hi => if_neg (by omega)
  have le : m.length ≤ (m ++ [O.lst ws]).length := by rw [List.length_append]; exact Nat.le_add_right _ _
  refine ⟨⟨fun k ob e => ?_, fun i j o u hi hj ho hu e => ?_, fun h e => (R.hx h e).mono (Keep.new hp) ext le⟩, ext, le, Keep.new hp⟩
  · by_cases hk : k < m.length
    · rw [List.getElem?_append_left hk] at e
      show ObR K hot _ _ _ (if k = m.length then p else r k) ob
      rw [if_neg (by omega)]
      exact (R.ob k ob e).mono (Keep.new hp) ext le fun _ vs q => by rw [upd_ne (ne_of_none q hp)]; exact q
    · have hk2 : k = m.length := by
        have := (List.getElem?_eq_some_iff.mp e).1
        rw [List.length_append, List.length_singleton] at this
        omega
      subst hk2
      rw [List.getElem?_append_right (Nat.le_refl _), Nat.sub_self] at e
      have e' : O.lst ws = ob := by simpa using e
      subst e'
      show ObR K hot _ _ _ (if m.length = m.length then p else r m.length) (.lst ws)
      rw [if_pos rfl]
      exact ⟨vs, upd_same, hv.mono (Keep.new hp) ext le⟩
  · have nn : ∀ i o, m[i]? = some o → o.mut = true → r i ≠ p := fun i o e ho z => by
      have q := R.ob i o e
      cases o with
      | lst us =>
        obtain ⟨vs', h1, _⟩ := q
        rw [z, hp] at h1
        cases h1
      | fro us => cases ho
    have cs : ∀ i o, (m ++ [O.lst ws])[i]? = some o → (i < m.length ∧ m[i]? = some o) ∨ i = m.length := fun i o e => by
      by_cases hk : i < m.length
      · rw [List.getElem?_append_left hk] at e
        exact .inl ⟨hk, e⟩
      · have := (List.getElem?_eq_some_iff.mp e).1
        rw [List.length_append, List.length_singleton] at this
        exact .inr (by omega)
    have e : (if i = m.length then p else r i) = (if j = m.length then p else r j) := e
    rcases cs i o hi with ⟨li, ei⟩ | ei <;> rcases cs j u hj with ⟨lj, ej⟩ | ej
    · rw [if_neg (by omega), if_neg (by omega)] at e
      exact R.inj i j o u ei ej ho hu e
    · rw [if_neg (by omega), if_pos ej] at e
      exact absurd e (nn i o ei ho)
    · rw [if_pos ei, if_neg (by omega)] at e
      exact absurd e.symm (nn j u ej hu)
    · omega
/-- a list is written -/
theorem Step.put (R : Rep K hot r m H) {k : Nat} {ws0 ws : List W} {vs : List V} (hk : m[k]? = some (.lst ws0)) (hv : VRs K hot r m.length H ws vs) :
    Step K hot r m H r (m.set k (.lst ws)) (upd H (r k) (.lst vs)) := by
  obtain ⟨vs0, h0, _⟩ := R.lt hk
  have kp : Keep H (upd H (r k) (.lst vs)) := Keep.mut h0 (fun z => z)
  have kl : k < m.length := (List.getElem?_eq_some_iff.mp hk).1
  have len : (m.set k (O.lst ws)).length = m.length := List.length_set
  refine ⟨⟨fun j ob e => ?_, fun i j o u hi hj ho hu e => ?_, fun h e => ?_⟩, fun _ _ => rfl, by rw [len]; exact Nat.le_refl _, kp⟩
  · by_cases hj : k = j
    · subst hj
      rw [List.getElem?_set_self kl] at e
      cases e
      exact ⟨vs, upd_same, hv.mono kp (fun _ _ => rfl) (by rw [len]; exact Nat.le_refl _)⟩
    · rw [List.getElem?_set_ne hj] at e
      refine (R.ob j _ e).mono kp (fun _ _ => rfl) (by rw [len]; exact Nat.le_refl _) fun hm vs' q => ?_
      rw [upd_ne]
      · exact q
      · intro z
        exact hj (R.inj k j _ _ hk e rfl hm z.symm)
  · have old : ∀ (i : Nat) (o : O), (m.set k (O.lst ws))[i]? = some o → o.mut = true → ∃ o' : O, m[i]? = some o' ∧ o'.mut = true := fun i o e ho => by
      by_cases hj : k = i
      · subst hj
        exact ⟨_, hk, rfl⟩
      · rw [List.getElem?_set_ne hj] at e
        exact ⟨o, e, ho⟩
    obtain ⟨o', a1, a2⟩ := old i o hi ho
    obtain ⟨u', b1, b2⟩ := old j u hj hu
    exact R.inj i j o' u' a1 b1 a2 b2 e
  · rw [len]
    exact (R.hx h e).mono kp (fun _ _ => rfl) (Nat.le_refl _)

/-! ### operations on values -/
def Wo (K : PySem.W.Frag) (hot : Option Hot) (r : Nat → Addr) (m : Mem) (H : Hp) (o : Option (W × Mem)) (Q : VK) : Prop := match o with
  | some (w, m') => ∀ r' H' v, Step K hot r m H r' m' H' → VR K hot r' m'.length H' w v → Q v H'
  | none => False
theorem Wo.val {w : W} {v : V} {Q : VK} (h : Wo K hot r m H (some (w, m)) Q) (R : Rep K hot r m H) (hv : VR K hot r m.length H w v) : Q v H := h r H v (Step.refl R) hv
theorem Wo.lst {ws : List W} {vs : List V} {Q : VK} (h : Wo K hot r m H (some (.ref m.length, m ++ [.lst ws])) Q) (R : Rep K hot r m H) (hv : VRs K hot r m.length H ws vs) (p : Addr) (hp : H p = none) : Q (.ref p) (upd H p (.lst vs)) := by
  have h := h _ _ (.ref p) (Step.newL R hp hv) (by
    have e : V.ref p = V.ref ((fun k => if k = m.length then p else r k) m.length) := by
      show V.ref p = V.ref (if m.length = m.length then p else r m.length)
      rw [if_pos rfl]
    rw [e]
    exact .ref (by rw [List.length_append, List.length_singleton]; exact Nat.lt_succ_self _))
  exact h
theorem Wo.tup {ws : List W} {vs : List V} {Q : VK} (h : Wo K hot r m H (some (.tup ws, m)) Q) (R : Rep K hot r m H) (hv : VRs K hot r m.length H ws vs) (p : Addr) (hp : H p = none) : Q (.ref p) (upd H p (.tup vs)) :=
  h r _ (.ref p) (Step.side R hp) (.tup (SqT.of upd_same) (hv.mono (Keep.new hp) (fun _ _ => rfl) (Nat.le_refl _)))
theorem Wo.put {k : Nat} {ws0 ws : List W} {vs : List V} {w : W} {v : V} {Q : VK} (h : Wo K hot r m H (some (w, m.set k (.lst ws))) Q) (R : Rep K hot r m H) (hk : m[k]? = some (.lst ws0)) (hv : VRs K hot r m.length H ws vs) (hw : VR K hot r m.length H w v) :
    Q v (upd H (r k) (.lst vs)) := by
  have S := Step.put R hk hv
  exact h r _ v S (S.vr hw)
end
abbrev Op2 := W → W → Mem → Option (W × Mem)
abbrev Op1 := W → Mem → Option (W × Mem)
abbrev OpN := List W → Mem → Option (W × Mem)
def rOf (K : PySem.W.Frag) (hot : Option Hot) (f : Op2) : R2 := fun x y H Q => ∃ r m a b, Rep K hot r m H ∧ VR K hot r m.length H a x ∧ VR K hot r m.length H b y ∧ Wo K hot r m H (f a b m) Q
def rOf1 (K : PySem.W.Frag) (hot : Option Hot) (f : Op1) : V → Hp → VK → Prop := fun x H Q => ∃ r m a, Rep K hot r m H ∧ VR K hot r m.length H a x ∧ Wo K hot r m H (f a m) Q
def rOfN (K : PySem.W.Frag) (hot : Option Hot) (f : OpN) : List V → Hp → VK → Prop := fun xs H Q => ∃ r m ws, Rep K hot r m H ∧ VRs K hot r m.length H ws xs ∧ Wo K hot r m H (f ws m) Q
def lift (o : Option (W × Mem)) : Out W := match o with
  | some (w, m) => .ok w m
  | none => .bad
section
variable {K : PySem.W.Frag} {hot : Option Hot} {x : WX} {s : L2.St} {r : Nat → Addr} {m : Mem} {H : Hp}
theorem Wo.of {o : Option (W × Mem)} {Q : VK} (h : Wp K hot x s r m H (lift o) fun w r' m' H' => ∀ v, VR K hot r' m'.length H' w v → Q v H') : Wo K hot r m H o Q := by
  cases o with
  | none => exact h
  | some p =>
    obtain ⟨w, m'⟩ := p
    exact fun r' H' v S hv => h r' H' S v hv
end

/-! ### expressions -/
abbrev JE (X : Cx) (hot : Option Hot) (x : WX) (e : Expr) (d : DE) : Prop := PE X e (tE X.K hot x d)
abbrev JT (X : Cx) (hot : Option Hot) (x : WX) (e : Expr) (d : DT) : Prop := PT X e (tT X.K hot x d)
abbrev JW (X : Cx) (hot : Option Hot) (x : WX) (e : Expr) (d : DT) : Prop := PW X e (tT X.K hot x d)
abbrev JA (X : Cx) (hot : Option Hot) (x : WX) (es : List Expr) (d : DA) : Prop := PA X es (tA X.K hot x d)
abbrev JS (X : Cx) (hot : Option Hot) (x : WX) (st : Stmt) (d : DS) : Prop := PS X st (tS X.K hot x d)
abbrev JB (X : Cx) (hot : Option Hot) (x : WX) (sts : List Stmt) (d : DS) : Prop := PSs X sts (tS X.K hot x d)
theorem pe_imp {X : Cx} {e : Expr} {t t' : TE} (h : PE X e t) (k : ∀ s H Q, t' s H Q → t s H Q) : PE X e t' := ⟨fun pins s σ H Q I q => h.run pins s σ H Q I (k σ H Q q)⟩
theorem pt_imp {X : Cx} {e : Expr} {t t' : TT} (h : PT X e t) (k : ∀ s H Q, t' s H Q → t s H Q) : PT X e t' := ⟨fun pins s σ H Q I q => h.run pins s σ H Q I (k σ H Q q)⟩
theorem pw_imp {X : Cx} {e : Expr} {t t' : TT} (h : PW X e t) (k : ∀ s H Q, t' s H Q → t s H Q) : PW X e t' := ⟨fun w pins s σ H Q I q => h.run w pins s σ H Q I (k σ H Q q)⟩
theorem pa_imp {X : Cx} {e : List Expr} {t t' : TA} (h : PA X e t) (k : ∀ s H Q, t' s H Q → t s H Q) : PA X e t' := ⟨fun pos pins s σ H Q I q => h.run pos pins s σ H Q I (k σ H Q q)⟩
theorem ps_imp {X : Cx} {e : Stmt} {t t' : TS} (h : PS X e t) (k : ∀ D s H, t' D s H → t D s H) : PS X e t' := ⟨fun pins s σ H D I q => h.run pins s σ H D I (k D σ H q)⟩
theorem pss_imp {X : Cx} {e : List Stmt} {t t' : TS} (h : PSs X e t) (k : ∀ D s H, t' D s H → t D s H) : PSs X e t' := ⟨fun pins s σ H D I q => h.run pins s σ H D I (k D σ H q)⟩

def dVar (i : Nat) : DE := fun env m => match env[i]? with
  | some (some w) => .ok w m
  | _ => .bad
def dC (w : W) : DE := fun _ m => .ok w m
def dOp (f : Op2) (a b : DE) : DE := fun env m => (a env m).bind fun x m1 => (b env m1).bind fun y m2 => lift (f x y m2)
def dUn (f : Op1) (a : DE) : DE := fun env m => (a env m).bind fun x m1 => lift (f x m1)
def dNil : DA := fun _ m => .ok [] m
def dCons (a : DE) (b : DA) : DA := fun env m => (a env m).bind fun x m1 => (b env m1).bind fun xs m2 => .ok (x :: xs) m2
/-- a built-in called with values -/
def dCB (f : OpN) (a : DA) : DE := fun env m => (a env m).bind fun xs m1 => lift (f xs m1)
def tupW : OpN := fun ws m => if ws.length ≤ 100000 then some (.tup ws, m) else none
def lstW : OpN := fun ws m => if ws.length ≤ 100000 then some (.ref m.length, m ++ [.lst ws]) else none
theorem line_le {n : Nat} (h : n ≤ 100000) : n ≤ sizeLine := Nat.le_trans h (by decide)
theorem line_lt {n : Nat} (h : n ≤ 100000) : n < sizeLine := Nat.lt_of_le_of_lt h (by decide)
section
variable {X : Cx} {hot : Option Hot} {x : WX} {e a b : Expr} {es : List Expr} {da db d : DE} {ds : DA} {pos : Pos}
theorem je_var {i : Nat} (h : PE X e (tVar i)) : JE X hot x e (dVar i) := pe_imp h fun s H Q ⟨r, m, env, R, E, w⟩ => by
  unfold dVar at w
  cases q : env[i]? with
  | none => rw [q] at w; exact w.elim
  | some o => cases o with
    | none => rw [q] at w; exact w.elim
    | some u =>
      rw [q] at w
      obtain ⟨v, h1, h2⟩ := E.at_ i u q
      exact ⟨v, h1, w r H (Step.refl R) v h2⟩
theorem je_c {w : W} {v : V} (h : PE X e (tC v)) (hv : ∀ r n H, VR X.K hot r n H w v) : JE X hot x e (dC w) := pe_imp h fun s H Q ⟨r, m, env, R, E, q⟩ => q r H (Step.refl R) v (hv _ _ _)
theorem je_int {i j} : JE X hot x (.Constant (.int i) j pos) (dC (.int i)) := je_c pe_int fun _ _ _ => .int i
theorem je_bl {i j} : JE X hot x (.Constant (.bool i) j pos) (dC (.bl i)) := je_c pe_bl fun _ _ _ => .bl i
theorem je_non {j} : JE X hot x (.Constant .none j pos) (dC .non) := je_c pe_non fun _ _ _ => .non
theorem je_str {i j} : JE X hot x (.Constant (.str i) j pos) (dC (.str i)) := je_c pe_str fun _ _ _ => .str i
/-- the values of two expressions, handed on -/
theorem two_of {K : PySem.W.Frag} {s : L2.St} {H : Hp} {f : W → W → Mem → Out W} {Q : VK} {R2 : V → V → Hp → Prop} (h : tE K hot x (fun env m => (da env m).bind fun x m1 => (db env m1).bind fun y m2 => f x y m2) s H Q)
    (k : ∀ r m H' u w va vb, Rep K hot r m H' → VR K hot r m.length H' u va → VR K hot r m.length H' w vb → Wp K hot x s r m H' (f u w m) (fun w r' m' H' => ∀ v, VR K hot r' m'.length H' w v → Q v H') → R2 va vb H') :
    tE K hot x da s H fun va H1 => tE K hot x db s H1 fun vb H2 => R2 va vb H2 := by
  obtain ⟨r, m, env, R, E, w⟩ := h
  refine ⟨r, m, env, R, E, (Wp.bind w).imp fun u r1 m1 H1 S1 w1 va hva => ⟨r1, m1, env, S1.rep, E.step S1, (Wp.bind w1).imp fun u2 r2 m2 H2 S2 w2 vb hvb => ?_⟩⟩
  exact k r2 m2 H2 u u2 va vb S2.rep (S2.vr hva) hvb w2
theorem one_of {K : PySem.W.Frag} {s : L2.St} {H : Hp} {f : W → Mem → Out W} {Q : VK} {R1 : V → Hp → Prop} (h : tE K hot x (fun env m => (da env m).bind fun x m1 => f x m1) s H Q)
    (k : ∀ r m H' u va, Rep K hot r m H' → VR K hot r m.length H' u va → Wp K hot x s r m H' (f u m) (fun w r' m' H' => ∀ v, VR K hot r' m'.length H' w v → Q v H') → R1 va H') :
    tE K hot x da s H fun va H1 => R1 va H1 := by
  obtain ⟨r, m, env, R, E, w⟩ := h
  refine ⟨r, m, env, R, E, (Wp.bind w).imp fun u r1 m1 H1 S1 w1 va hva => ?_⟩
  exact k r1 m1 H1 u va S1.rep hva w1
theorem args_of {K : PySem.W.Frag} {s : L2.St} {H : Hp} {f : List W → Mem → Out W} {Q : VK} {R1 : List V → Hp → Prop} (h : tE K hot x (fun env m => (ds env m).bind fun x m1 => f x m1) s H Q)
    (k : ∀ r m H' us vs, Rep K hot r m H' → VRs K hot r m.length H' us vs → Wp K hot x s r m H' (f us m) (fun w r' m' H' => ∀ v, VR K hot r' m'.length H' w v → Q v H') → R1 vs H') :
    tA K hot x ds s H fun vs H1 => R1 vs H1 := by
  obtain ⟨r, m, env, R, E, w⟩ := h
  refine ⟨r, m, env, R, E, (Wp.bind w).imp fun u r1 m1 H1 S1 w1 va hva => ?_⟩
  exact k r1 m1 H1 u va S1.rep hva w1
theorem dop_of {K : PySem.W.Frag} {s : L2.St} {H : Hp} {f : Op2} {Q : VK} (h : tE K hot x (dOp f da db) s H Q) : tOp (rOf K hot f) (tE K hot x da) (tE K hot x db) s H Q :=
  two_of h fun r m H' u w va vb R hu hw q => ⟨r, m, u, w, R, hu, hw, Wo.of q⟩
theorem je_op {op : Operator} {f : Op2} (ho : OpR X (binaryOp op) (rOf X.K hot f)) (ha : JE X hot x a da) (hb : JE X hot x b db) : JE X hot x (.BinOp a op b pos) (dOp f da db) := pe_imp (pe_op ho ha hb) fun s H Q h => dop_of h
theorem je_un {op : UnaryOp} {f : Op1} (ho : UnR X (unaryOp op) (rOf1 X.K hot f)) (ha : JE X hot x a da) : JE X hot x (.UnaryOp op a pos) (dUn f da) :=
  pe_imp (pe_un ho ha) fun s H Q h => one_of h fun r m H' u va R hu q => ⟨r, m, u, R, hu, Wo.of q⟩
theorem je_cmp {op : CmpOp} {f : Op2} (ho : OpR X (compareOp op) (rOf X.K hot f)) (ha : JE X hot x a da) (hb : JE X hot x b db) (hm : behindInMarks op b = false) : JE X hot x (.Compare a [op] [b] pos) (dOp f da db) := pe_imp (pe_cmpR ho ha hb hm) fun s H Q h => dop_of h
theorem ja_nil : JA X hot x [] dNil := pa_imp pa_nil fun s H Q ⟨r, m, env, R, E, w⟩ => w r H (Step.refl R) [] .nil
theorem ja_cons (ha : JE X hot x e d) (hs : JA X hot x es ds) (h : starEach (e :: es) X.env = (false, eval e X.env) :: starEach es X.env := by rfl) : JA X hot x (e :: es) (dCons d ds) := by
  refine pa_imp (pa_cons ha hs h) fun s H Q ⟨r, m, env, R, E, w⟩ => ?_
  refine ⟨r, m, env, R, E, (Wp.bind w).imp fun u r1 m1 H1 S1 w1 va hva => ⟨r1, m1, env, S1.rep, E.step S1, (Wp.bind w1).imp fun us r2 m2 H2 S2 w2 vs hvs => ?_⟩⟩
  exact w2 r2 H2 (Step.refl S2.rep) _ (.cons (S2.vr hva) hvs)
theorem je_tup {k} (h : JA X hot x es ds) : JE X hot x (.Tuple es k pos) (dCB tupW ds) := pe_imp (pe_tup h) fun s H Q q => args_of q fun r m H' us vs R hus w => by
  unfold tupW at w
  by_cases hl : us.length ≤ 100000
  · rw [if_pos hl] at w
    exact ⟨line_le (by rw [← hus.length]; exact hl), fun p hp => (Wo.of w).tup R hus p hp⟩
  · rw [if_neg hl] at w
    exact w.elim
theorem je_lst (h : JA X hot x es ds) : JE X hot x (.List es pos) (dCB lstW ds) := pe_imp (pe_lst h) fun s H Q q => args_of q fun r m H' us vs R hus w => by
  unfold lstW at w
  by_cases hl : us.length ≤ 100000
  · rw [if_pos hl] at w
    exact ⟨line_le (by rw [← hus.length]; exact hl), fun p hp => (Wo.of w).lst R hus p hp⟩
  · rw [if_neg hl] at w
    exact w.elim
end
end Nw
set_option Elab.async false
set_option linter.all false
set_option maxRecDepth 100000
set_option maxHeartbeats 1000000
namespace Nw
open PySem PySem.Spec PyProof.Rows L2

/-! ### a value as data -/
def sq {α : Type} : List (Option α) → Option (List α)
  | [] => some []
  | o :: l => o.bind fun a => (sq l).map fun r => a :: r
def toD (m : Mem) : Nat → W → Option PyData
  | 0, _ => none
  | _ + 1, .non => some .none
  | _ + 1, .bl b => some (.bool b)
  | _ + 1, .int i => some (.int i)
  | _ + 1, .str x => some (.str x)
  | n + 1, .tup l => (sq (l.map (toD m n))).map .tuple
  | n + 1, .ref k => match m[k]? with
    | some (.lst l) => (sq (l.map (toD m n))).map .list
    | some (.fro l) => (sq (l.map (toD m n))).map .list
    | none => none
  | _ + 1, .fn _ => none
  | _ + 1, .exv _ _ => none
section
variable {K : PySem.W.Frag} {hot : Option Hot} {r : Nat → Addr} {m : Mem} {H : Hp}
theorem dps_of {n : Nat} (ih : ∀ (w : W) (v : V) (d : PyData), toD m n w = some d → VR K hot r m.length H w v → Dp K H v d) : ∀ (l : List W) (vs : List V) (ds : List PyData), sq (l.map (toD m n)) = some ds → VRs K hot r m.length H l vs → DpAll K H vs ds
  | [], _, ds, e, h => by
    cases h
    have e : some ([] : List PyData) = some ds := e
    cases e
    exact .nil
  | w :: l, _, ds, e, h => by
    cases h with
    | cons h1 h2 =>
      have e : ((toD m n w).bind fun a => (sq (l.map (toD m n))).map fun r => a :: r) = some ds := e
      cases q : toD m n w with
      | none => rw [q] at e; cases e
      | some d =>
        cases q2 : sq (l.map (toD m n)) with
        | none => rw [q, q2] at e; cases e
        | some ds' =>
          rw [q, q2] at e
          cases e
          exact .cons (ih w _ d q h1) (dps_of ih l _ ds' q2 h2)
theorem dp_of (R : Rep K hot r m H) : ∀ (n : Nat) (w : W) (v : V) (d : PyData), toD m n w = some d → VR K hot r m.length H w v → Dp K H v d
  | 0, _, _, _, e, _ => by cases e
  | n + 1, w, v, d, e, h => by
    cases h with
    | non => cases e; exact .non
    | bl b => cases e; exact .bl b
    | int i => cases e; exact .int i
    | str x => cases e; exact .str x
    | fn x => cases e
    | exv q => cases e
    | tup hs hv =>
      rename_i l a vs
      have e : (sq (l.map (toD m n))).map PyData.tuple = some d := e
      obtain ⟨ds, e1, e2⟩ := Option.map_eq_some_iff.mp e
      subst e2
      exact .tup hs (dps_of (dp_of R n) l vs ds e1 hv)
    | ref hk =>
      rename_i k
      have e : (match m[k]? with
        | some (.lst l) => (sq (l.map (toD m n))).map PyData.list
        | some (.fro l) => (sq (l.map (toD m n))).map PyData.list
        | none => none) = some d := e
      cases q : m[k]? with
      | none => rw [q] at e; cases e
      | some o =>
        have ob := R.ob k o q
        rw [q] at e
        cases o with
        | lst l =>
          obtain ⟨ds, e1, e2⟩ := Option.map_eq_some_iff.mp e
          subst e2
          obtain ⟨vs, h1, h2⟩ := ob
          exact .lst (SqL.of h1) (dps_of (dp_of R n) l vs ds e1 h2)
        | fro l =>
          obtain ⟨ds, e1, e2⟩ := Option.map_eq_some_iff.mp e
          subst e2
          obtain ⟨vs, h1, h2⟩ := ob
          exact .lst h1.sq (dps_of (dp_of R n) l vs ds e1 h2)
end
abbrev deep : Nat := 24
def eqW : Op2 := fun a b m => match toD m deep a, toD m deep b with
  | some d, some e => if SeqAt.shaped d = true ∧ SeqAt.shaped e = true then some (.bl (PyData.eqv d e), m) else none
  | _, _ => none
def neW : Op2 := fun a b m => match toD m deep a, toD m deep b with
  | some d, some e => if SeqAt.shaped d = true ∧ SeqAt.shaped e = true then some (.bl (!PyData.eqv d e), m) else none
  | _, _ => none
def inD (d : PyData) : PyData → Option Bool
  | .list ds => some (ds.any fun z => PyData.eqv z d)
  | .tuple ds => some (ds.any fun z => PyData.eqv z d)
  | _ => none
def inW : Op2 := fun a b m => match toD m deep a, toD m deep b with
  | some d, some e => if SeqAt.shaped d = true ∧ SeqAt.shaped e = true then (inD d e).map fun b => (.bl b, m) else none
  | _, _ => none
def ninW : Op2 := fun a b m => match toD m deep a, toD m deep b with
  | some d, some e => if SeqAt.shaped d = true ∧ SeqAt.shaped e = true then (inD d e).map fun b => (.bl (!b), m) else none
  | _, _ => none
def int2 (g : Int → Int → Option W) : Op2 := fun a b m => match a, b with
  | .int i, .int j => (g i j).map fun w => (w, m)
  | _, _ => none
def subW : Op2 := int2 fun i j => some (.int (i - j))
def modW : Op2 := int2 fun i j => if 0 < j then some (.int (i % j)) else none
def fdivW : Op2 := int2 fun i j => if 0 < j ∧ j < 1073741824 then some (.int (i / j)) else none
def powW : Op2 := int2 fun i j => if 0 ≤ j ∧ j ≤ 1000 ∧ i.natAbs < 18446744073709551616 then some (.int (i ^ j.toNat)) else none
def shlW : Op2 := int2 fun i j => if 0 ≤ j ∧ j ≤ 1000 ∧ i.natAbs < 18446744073709551616 then some (.int (i * 2 ^ j.toNat)) else none
def shrW : Op2 := int2 fun i j => if 0 ≤ j then some (.int (i / 2 ^ j.toNat)) else none
def xorW : Op2 := int2 fun i j => some (.int (Builtin.bitXor i j))
def andW : Op2 := int2 fun i j => some (.int (Builtin.bitAnd i j))
def lstOf (m : Mem) (k : Nat) : Option (List W) := match m[k]? with
  | some (.lst l) => some l
  | _ => none
/-- what a list, a tuple holds -/
def seqOf (m : Mem) : W → Option (List W)
  | .tup l => some l
  | .ref k => (match m[k]? with
    | some (.lst l) => some l
    | some (.fro l) => some l
    | none => none)
  | _ => none
def addW : Op2 := fun a b m => match a, b with
  | .int i, .int j => some (.int (i + j), m)
  | .str x, .str y => if x.length + y.length ≤ 100000 then some (.str (x ++ y), m) else none
  | .tup x, .tup y => if x.length + y.length ≤ 100000 then some (.tup (x ++ y), m) else none
  | .ref i, .ref j => (match lstOf m i, lstOf m j with
    | some x, some y => if x.length + y.length ≤ 100000 then some (.ref m.length, m ++ [.lst (x ++ y)]) else none
    | _, _ => none)
  | _, _ => none
def big : Int := 18446744073709551616
def mulW : Op2 := fun a b m => match a, b with
  | .int i, .int j => if (-big < i ∧ i < big) ∨ (-big < j ∧ j < big) then some (.int (i * j), m) else none
  | .ref i, .int k => (match lstOf m i with
    | some x => if -100000 ≤ k ∧ k ≤ 100000 ∧ x.length * k.toNat ≤ 100000 then some (.ref m.length, m ++ [.lst (List.replicate k.toNat x).flatten]) else none
    | none => none)
  | .tup x, .int k => if x ≠ [] ∧ 2 ≤ k ∧ k ≤ 1000 ∧ x.length ≤ 1000 then some (.tup (List.replicate k.toNat x).flatten, m) else none
  | _, _ => none
def intsW : List W → Option (List Int)
  | [] => some []
  | .int i :: l => (intsW l).map (i :: ·)
  | _ :: _ => none
def cmpW (g : Int → Int → Bool) (h : List Int → List Int → Bool) : Op2 := fun a b m => match a, b with
  | .int i, .int j => some (.bl (g i j), m)
  | .tup x, .tup y => (match intsW x, intsW y with
    | some ns, some ms => some (.bl (h ns ms), m)
    | _, _ => none)
  | _, _ => none
def lexLe (ns ms : List Int) : Bool := Ob.lexAt (fun j => decide (ns.getD j 0 = ms.getD j 0)) (fun j => decide (ns.getD j 0 ≤ ms.getD j 0)) (decide (ns.length ≤ ms.length)) 0 (min ns.length ms.length)
def lexGt (ns ms : List Int) : Bool := Ob.lexAt (fun j => decide (ns.getD j 0 = ms.getD j 0)) (fun j => decide (ms.getD j 0 < ns.getD j 0)) (decide (ns.length > ms.length)) 0 (min ns.length ms.length)
def ltW : Op2 := cmpW (fun i j => decide (i < j)) HT.lexLt
def leW : Op2 := cmpW (fun i j => decide (i ≤ j)) lexLe
def gtW : Op2 := cmpW (fun i j => decide (j < i)) lexGt
def geW : Op2 := int2 fun i j => some (.bl (decide (j ≤ i)))
def isNon : W → Bool
  | .non => true
  | _ => false
/-- is: None and truths alone -/
def isW : Op2 := fun a b m => match b with
  | .non => some (.bl (isNon a), m)
  | .bl b => (match a with
    | .bl a => some (.bl (decide (a = b)), m)
    | _ => none)
  | _ => none
def isnW : Op2 := fun a b m => match b with
  | .non => some (.bl (!isNon a), m)
  | .bl b => (match a with
    | .bl a => some (.bl (!decide (a = b)), m)
    | _ => none)
  | _ => none
def negW : Op1 := fun a m => match a with
  | .int i => some (.int (-i), m)
  | _ => none

section
variable {X : Cx} {hot : Option Hot}
theorem op_eqW (hu : X.A.units + 64 < cLine) : OpR X (compareOp .Eq) (rOf X.K hot eqW) := by
  intro pins s σ H x y v u Q I rx ry ⟨r, m, a, b, R, va, vb, w⟩
  unfold eqW at w
  cases e1 : toD m deep a with
  | none => rw [e1] at w; exact w.elim
  | some d =>
    cases e2 : toD m deep b with
    | none => rw [e1, e2] at w; exact w.elim
    | some e =>
      rw [e1, e2] at w
      dsimp only at w
      by_cases c : SeqAt.shaped d = true ∧ SeqAt.shaped e = true
      · rw [if_pos c] at w
        exact op_eqD hu pins s σ H x y v u Q I rx ry ⟨d, e, dp_of R _ a x d e1 va, dp_of R _ b y e e2 vb, c.1, c.2, w.val R (.bl _)⟩
      · rw [if_neg c] at w
        exact w.elim
theorem op_neW (hu : X.A.units + 64 < cLine) : OpR X (compareOp .NotEq) (rOf X.K hot neW) := by
  intro pins s σ H x y v u Q I rx ry ⟨r, m, a, b, R, va, vb, w⟩
  unfold neW at w
  cases e1 : toD m deep a with
  | none => rw [e1] at w; exact w.elim
  | some d =>
    cases e2 : toD m deep b with
    | none => rw [e1, e2] at w; exact w.elim
    | some e =>
      rw [e1, e2] at w
      dsimp only at w
      by_cases c : SeqAt.shaped d = true ∧ SeqAt.shaped e = true
      · rw [if_pos c] at w
        exact op_neD hu pins s σ H x y v u Q I rx ry ⟨d, e, dp_of R _ a x d e1 va, dp_of R _ b y e e2 vb, c.1, c.2, w.val R (.bl _)⟩
      · rw [if_neg c] at w
        exact w.elim
theorem all_of_shaped {ds : List PyData} (h : SeqAt.shaped (.tuple ds) = true) : PyData.canLayAll0 ds = true := SeqAt.canLay_of_shaped h
theorem op_inW (hu : X.A.units + 65 < cLine) : OpR X (compareOp .In) (rOf X.K hot inW) := by
  intro pins s σ H x y v u Q I rx ry ⟨r, m, a, b, R, va, vb, w⟩
  unfold inW at w
  cases e1 : toD m deep a with
  | none => rw [e1] at w; exact w.elim
  | some d =>
    cases e2 : toD m deep b with
    | none => rw [e1, e2] at w; exact w.elim
    | some e =>
      rw [e1, e2] at w
      dsimp only at w
      by_cases c : SeqAt.shaped d = true ∧ SeqAt.shaped e = true
      · rw [if_pos c] at w
        have p1 := dp_of R _ a x d e1 va
        have p2 := dp_of R _ b y e e2 vb
        obtain ⟨as, r1⟩ := Dp.reads I d x v p1 rx
        obtain ⟨bs, r2⟩ := Dp.reads I e y u p2 ry
        cases e with
        | list ds => exact SeqAt.in_list_reads r2 r1 (SeqAt.canLay_of_shaped c.2) (SeqAt.canLay_of_shaped c.1) (room_in_shaped c.1 hu) ⟨.bl _, H, I, rfl, w.val R (.bl _)⟩
        | tuple ds => exact SeqAt.in_tuple_reads r2 r1 (all_of_shaped c.2) (SeqAt.canLay_of_shaped c.1) (room_in_shaped c.1 hu) ⟨.bl _, H, I, rfl, w.val R (.bl _)⟩
        | _ => exact w.elim
      · rw [if_neg c] at w
        exact w.elim
theorem op_ninW (hu : X.A.units + 65 < cLine) : OpR X (compareOp .NotIn) (rOf X.K hot ninW) := by
  intro pins s σ H x y v u Q I rx ry ⟨r, m, a, b, R, va, vb, w⟩
  unfold ninW at w
  cases e1 : toD m deep a with
  | none => rw [e1] at w; exact w.elim
  | some d =>
    cases e2 : toD m deep b with
    | none => rw [e1, e2] at w; exact w.elim
    | some e =>
      rw [e1, e2] at w
      dsimp only at w
      by_cases c : SeqAt.shaped d = true ∧ SeqAt.shaped e = true
      · rw [if_pos c] at w
        have p1 := dp_of R _ a x d e1 va
        have p2 := dp_of R _ b y e e2 vb
        obtain ⟨as, r1⟩ := Dp.reads I d x v p1 rx
        obtain ⟨bs, r2⟩ := Dp.reads I e y u p2 ry
        cases e with
        | list ds => exact SeqAt.notIn_list_reads r2 r1 (SeqAt.canLay_of_shaped c.2) (SeqAt.canLay_of_shaped c.1) (room_in_shaped c.1 hu) ⟨.bl _, H, I, rfl, w.val R (.bl _)⟩
        | tuple ds => exact SeqAt.notIn_tuple_reads r2 r1 (all_of_shaped c.2) (SeqAt.canLay_of_shaped c.1) (room_in_shaped c.1 hu) ⟨.bl _, H, I, rfl, w.val R (.bl _)⟩
        | _ => exact w.elim
      · rw [if_neg c] at w
        exact w.elim
/-- an operation of two intsW -/
theorem op_int2 {f : Value → Value → Sem Value} {g : Int → Int → Option W} (h : ∀ i j w, g i j = some w → ∃ C gi, OpR X f (rI C gi) ∧ C i j ∧ ∀ r n H, VR X.K hot r n H w (gi i j)) : OpR X f (rOf X.K hot (int2 g)) := by
  intro pins s σ H x y v u Q I rx ry ⟨r, m, a, b, R, va, vb, w⟩
  unfold int2 at w
  cases va with
  | int i =>
    cases vb with
    | int j =>
      dsimp only at w
      cases e : g i j with
      | none => rw [e] at w; exact w.elim
      | some t =>
        rw [e] at w
        obtain ⟨C, gi, ho, c, hv⟩ := h i j t e
        exact ho pins s σ H _ _ v u Q I rx ry ⟨i, j, rfl, rfl, c, w.val R (hv _ _ _)⟩
    | _ => exact w.elim
  | _ => exact w.elim
theorem rI_of {f : Value → Value → Sem Value} {g : Int → Int → V} (h : OpR X f (rI0 g)) : OpR X f (rI (fun _ _ => True) g) := fun pins s σ H x y v u Q I rx ry ⟨i, j, e1, e2, _, q⟩ => h pins s σ H x y v u Q I rx ry ⟨i, j, e1, e2, q⟩
theorem op_subW : OpR X (binaryOp .Sub) (rOf X.K hot subW) := op_int2 fun i j w e => ⟨_, _, rI_of op_sub, trivial, fun _ _ _ => by cases e; exact .int _⟩
theorem op_modW : OpR X (binaryOp .Mod) (rOf X.K hot modW) := op_int2 fun i j w e => by
  by_cases c : 0 < j
  · rw [if_pos c] at e
    cases e
    exact ⟨_, _, op_mod, c, fun _ _ _ => .int _⟩
  · rw [if_neg c] at e
    cases e
theorem op_fdivW : OpR X (binaryOp .FloorDiv) (rOf X.K hot fdivW) := op_int2 fun i j w e => by
  by_cases c : 0 < j ∧ j < 1073741824
  · rw [if_pos c] at e
    cases e
    exact ⟨_, _, op_fdiv, c, fun _ _ _ => .int _⟩
  · rw [if_neg c] at e
    cases e
theorem op_powW : OpR X (binaryOp .Pow) (rOf X.K hot powW) := op_int2 fun i j w e => by
  by_cases c : 0 ≤ j ∧ j ≤ 1000 ∧ i.natAbs < 18446744073709551616
  · rw [if_pos c] at e
    cases e
    exact ⟨_, _, op_pow, ⟨c.1, by omega, by have := c.2.2; omega⟩, fun _ _ _ => .int _⟩
  · rw [if_neg c] at e
    cases e
theorem op_shlW : OpR X (binaryOp .LShift) (rOf X.K hot shlW) := op_int2 fun i j w e => by
  by_cases c : 0 ≤ j ∧ j ≤ 1000 ∧ i.natAbs < 18446744073709551616
  · rw [if_pos c] at e
    cases e
    exact ⟨_, _, op_shl, ⟨c.1, by omega, by have := c.2.2; omega⟩, fun _ _ _ => .int _⟩
  · rw [if_neg c] at e
    cases e
theorem op_shrW : OpR X (binaryOp .RShift) (rOf X.K hot shrW) := op_int2 fun i j w e => by
  by_cases c : 0 ≤ j
  · rw [if_pos c] at e
    cases e
    exact ⟨_, _, op_shr, c, fun _ _ _ => .int _⟩
  · rw [if_neg c] at e
    cases e
theorem op_xorW : OpR X (binaryOp .BitXor) (rOf X.K hot xorW) := op_int2 fun i j w e => ⟨_, _, rI_of op_xor, trivial, fun _ _ _ => by cases e; exact .int _⟩
theorem op_andW : OpR X (binaryOp .BitAnd) (rOf X.K hot andW) := op_int2 fun i j w e => ⟨_, _, rI_of op_and, trivial, fun _ _ _ => by cases e; exact .int _⟩
theorem op_geW : OpR X (compareOp .GtE) (rOf X.K hot geW) := op_int2 fun i j w e => ⟨_, _, rI_of op_ge, trivial, fun _ _ _ => by cases e; exact .bl _⟩
theorem un_negW : UnR X (unaryOp .USub) (rOf1 X.K hot negW) := by
  intro pins s σ H x v Q I rx ⟨r, m, a, R, va, w⟩
  cases va with
  | int i => exact un_neg pins s σ H _ v Q I rx ⟨i, rfl, w.val R (.int _)⟩
  | _ => exact w.elim
theorem Rep.lst {K : PySem.W.Frag} {hot : Option Hot} {r : Nat → Addr} {m : Mem} {H : Hp} (R : Rep K hot r m H) {k : Nat} {l : List W} (h : lstOf m k = some l) : m[k]? = some (.lst l) := by
  unfold lstOf at h
  cases q : m[k]? with
  | none => rw [q] at h; cases h
  | some o => cases o with
    | lst l' => rw [q] at h; cases h; rfl
    | fro l' => rw [q] at h; cases h
theorem op_addW : OpR X (binaryOp .Add) (rOf X.K hot addW) := by
  intro pins s σ H x y v u Q I rx ry ⟨r, m, a, b, R, va, vb, w⟩
  unfold addW at w
  cases va with
  | int i =>
    cases vb with
    | int j => exact op_add pins s σ H _ _ v u Q I rx ry ⟨i, j, rfl, rfl, w.val R (.int _)⟩
    | _ => exact w.elim
  | str x =>
    cases vb with
    | str y =>
      dsimp only at w
      by_cases c : x.length + y.length ≤ 100000
      · rw [if_pos c] at w
        exact op_add_str pins s σ H _ _ v u Q I rx ry ⟨x, y, rfl, rfl, line_le c, w.val R (.str _)⟩
      · rw [if_neg c] at w
        exact w.elim
    | _ => exact w.elim
  | tup ha hva =>
    rename_i x a vs
    cases vb with
    | tup hb hvb =>
      rename_i y b us
      dsimp only at w
      by_cases c : x.length + y.length ≤ 100000
      · rw [if_pos c] at w
        have l1 := hva.length
        have l2 := hvb.length
        refine op_catA pins s σ H _ _ v u Q I rx ry ⟨a, b, vs, us, rfl, rfl, ha, hb, by have := line_le c; omega, fun e => ?_, fun _ e => ?_, fun _ _ p hp => w.tup R (hva.append hvb) p hp⟩
        · subst e
          cases hva
          exact w.val R (.tup hb hvb)
        · subst e
          cases hvb
          rw [List.append_nil] at w
          exact w.val R (.tup ha hva)
      · rw [if_neg c] at w
        exact w.elim
    | _ => exact w.elim
  | ref hi =>
    rename_i i
    cases vb with
    | ref hj =>
      rename_i j
      dsimp only at w
      cases e1 : lstOf m i with
      | none => rw [e1] at w; exact w.elim
      | some x =>
        cases e2 : lstOf m j with
        | none => rw [e1, e2] at w; exact w.elim
        | some y =>
          rw [e1, e2] at w
          dsimp only at w
          by_cases c : x.length + y.length ≤ 100000
          · rw [if_pos c] at w
            obtain ⟨vs, h1, h2⟩ := R.lt (Rep.lst R e1)
            obtain ⟨us, h3, h4⟩ := R.lt (Rep.lst R e2)
            have l1 := h2.length
            have l2 := h4.length
            exact op_cat pins s σ H _ _ v u Q I rx ry ⟨_, _, vs, us, rfl, rfl, h1, h3, by have := line_le c; omega, fun p hp => w.lst R (h2.append h4) p hp⟩
          · rw [if_neg c] at w
            exact w.elim
    | _ => exact w.elim
  | _ => exact w.elim
theorem VRs.rep {K : PySem.W.Frag} {r : Nat → Addr} {n : Nat} {H : Hp} {ws : List W} {vs : List V} (h : VRs K hot r n H ws vs) : ∀ k : Nat, VRs K hot r n H (List.replicate k ws).flatten (List.replicate k vs).flatten
  | 0 => .nil
  | k + 1 => by
    rw [List.replicate_succ, List.replicate_succ, List.flatten_cons, List.flatten_cons]
    exact h.append (VRs.rep h k)
theorem op_mulW : OpR X (binaryOp .Mult) (rOf X.K hot mulW) := by
  intro pins s σ H x y v u Q I rx ry ⟨r, m, a, b, R, va, vb, w⟩
  unfold mulW at w
  cases va with
  | int i =>
    cases vb with
    | int j =>
      dsimp only at w
      by_cases c : (-big < i ∧ i < big) ∨ (-big < j ∧ j < big)
      · rw [if_pos c] at w
        exact op_mul pins s σ H _ _ v u Q I rx ry ⟨i, j, rfl, rfl, by unfold CMul; unfold big at c; omega, w.val R (.int _)⟩
      · rw [if_neg c] at w
        exact w.elim
    | _ => exact w.elim
  | tup ha hva =>
    rename_i x a vs
    cases vb with
    | int k =>
      dsimp only at w
      by_cases c : x ≠ [] ∧ 2 ≤ k ∧ k ≤ 1000 ∧ x.length ≤ 1000
      · rw [if_pos c] at w
        have l1 := hva.length
        refine op_repT pins s σ H _ _ v u Q I rx ry ⟨a, k, vs, rfl, rfl, ha, fun e => ?_, c.2.1, c.2.2.1, by omega, fun p hp => w.tup R (hva.rep _) p hp⟩
        subst e
        cases hva
        exact c.1 rfl
      · rw [if_neg c] at w
        exact w.elim
    | _ => exact w.elim
  | ref hi =>
    rename_i i
    cases vb with
    | int k =>
      dsimp only at w
      cases e1 : lstOf m i with
      | none => rw [e1] at w; exact w.elim
      | some x =>
        rw [e1] at w
        dsimp only at w
        by_cases c : -100000 ≤ k ∧ k ≤ 100000 ∧ x.length * k.toNat ≤ 100000
        · rw [if_pos c] at w
          obtain ⟨vs, h1, h2⟩ := R.lt (Rep.lst R e1)
          have l1 := h2.length
          exact op_rep pins s σ H _ _ v u Q I rx ry ⟨_, k, vs, rfl, rfl, h1, by omega, by omega, by rw [← l1]; exact line_le c.2.2, fun p hp => w.lst R (h2.rep _) p hp⟩
        · rw [if_neg c] at w
          exact w.elim
    | _ => exact w.elim
  | _ => exact w.elim
theorem intsW_vals {K : PySem.W.Frag} {r : Nat → Addr} {n : Nat} {H : Hp} : ∀ {l : List W} {vs : List V} {ns : List Int}, intsW l = some ns → VRs K hot r n H l vs → vs = ns.map V.int
  | [], _, ns, e, h => by
    cases h
    have e : some ([] : List Int) = some ns := e
    cases e
    rfl
  | .int i :: l, _, ns, e, h => by
    cases h with
    | cons h1 h2 =>
      cases h1
      obtain ⟨ms, e1, e2⟩ := Option.map_eq_some_iff.mp (show (intsW l).map (i :: ·) = some ns from e)
      subst e2
      rw [intsW_vals e1 h2]
      rfl
  | .non :: l, _, ns, e, h => by cases e
  | .bl _ :: l, _, ns, e, h => by cases e
  | .str _ :: l, _, ns, e, h => by cases e
  | .tup _ :: l, _, ns, e, h => by cases e
  | .ref _ :: l, _, ns, e, h => by cases e
  | .fn _ :: l, _, ns, e, h => by cases e
  | .exv _ _ :: l, _, ns, e, h => by cases e
theorem op_cmpW {op : CmpOp} {g : Int → Int → Bool} {h : List Int → List Int → Bool} (hi : OpR X (compareOp op) (rI0 fun i j => .bl (g i j)))
    (ht : OpR X (compareOp op) fun x y H Q => ∃ (a b : Addr) (ns ms : List Int), x = .ref a ∧ y = .ref b ∧ SqT X.K H a (ns.map V.int) ∧ SqT X.K H b (ms.map V.int) ∧ Q (.bl (h ns ms)) H) : OpR X (compareOp op) (rOf X.K hot (cmpW g h)) := by
  intro pins s σ H x y v u Q I rx ry ⟨r, m, a, b, R, va, vb, w⟩
  unfold cmpW at w
  cases va with
  | int i =>
    cases vb with
    | int j => exact hi pins s σ H _ _ v u Q I rx ry ⟨i, j, rfl, rfl, w.val R (.bl _)⟩
    | _ => exact w.elim
  | tup ha hva =>
    rename_i x a vs
    cases vb with
    | tup hb hvb =>
      rename_i y b us
      dsimp only at w
      cases e1 : intsW x with
      | none => rw [e1] at w; exact w.elim
      | some ns =>
        cases e2 : intsW y with
        | none => rw [e1, e2] at w; exact w.elim
        | some ms =>
          rw [e1, e2] at w
          have q1 := intsW_vals e1 hva
          have q2 := intsW_vals e2 hvb
          subst q1 q2
          exact ht pins s σ H _ _ v u Q I rx ry ⟨a, b, ns, ms, rfl, rfl, ha, hb, w.val R (.bl _)⟩
    | _ => exact w.elim
  | _ => exact w.elim
theorem op_ltW (hu : X.A.units < cLine) : OpR X (compareOp .Lt) (rOf X.K hot ltW) := op_cmpW op_lt (op_ltT hu)
theorem op_leW (hu : X.A.units < cLine) : OpR X (compareOp .LtE) (rOf X.K hot leW) := op_cmpW op_le (op_leT hu)
theorem isNon_eq {K : PySem.W.Frag} {r : Nat → Addr} {n : Nat} {H : Hp} {a : W} {x : V} (va : VR K hot r n H a x) : isNon a = decide (x = V.non) := by
  cases va <;> first | rfl | exact (decide_eq_false (fun z => nomatch z)).symm
theorem op_isW : OpR X (compareOp .Is) (rOf X.K hot isW) := by
  intro pins s σ H x y v u Q I rx ry ⟨r, m, a, b, R, va, vb, w⟩
  unfold isW at w
  cases vb with
  | non =>
    refine op_isN pins s σ H _ _ v u Q I rx ry ⟨rfl, ?_⟩
    rw [isNon_eq va] at w
    exact w.val R (.bl _)
  | bl b =>
    cases va with
    | bl a => exact op_isBl pins s σ H _ _ v u Q I rx ry ⟨a, b, rfl, rfl, w.val R (.bl _)⟩
    | _ => exact w.elim
  | _ => exact w.elim
theorem op_isnW : OpR X (compareOp .IsNot) (rOf X.K hot isnW) := by
  intro pins s σ H x y v u Q I rx ry ⟨r, m, a, b, R, va, vb, w⟩
  unfold isnW at w
  cases vb with
  | non =>
    refine op_notN pins s σ H _ _ v u Q I rx ry ⟨rfl, ?_⟩
    rw [isNon_eq va] at w
    exact w.val R (.bl _)
  | bl b =>
    cases va with
    | bl a => exact op_notBl pins s σ H _ _ v u Q I rx ry ⟨a, b, rfl, rfl, w.val R (.bl _)⟩
    | _ => exact w.elim
  | _ => exact w.elim
end
end Nw
set_option Elab.async false
set_option linter.all false
set_option maxRecDepth 100000
set_option maxHeartbeats 1000000
namespace Nw
open PySem PySem.Spec PyProof.Rows L2

/-! ### truth, tests -/
def truW : W → Mem → Option Bool
  | .non, _ => some false
  | .bl b, _ => some b
  | .int i, _ => some (i != 0)
  | .str x, _ => if x.length ≤ 100000 then some ((x.length : Int) != 0) else none
  | .tup l, _ => some (!l.isEmpty)
  | .ref k, m => (match m[k]? with
    | some (.lst l) => some (!l.isEmpty)
    | some (.fro l) => some (!l.isEmpty)
    | none => none)
  | _, _ => none
def liftB (o : Option Bool) (m : Mem) : Out Bool := match o with
  | some b => .ok b m
  | none => .bad
def blW : W → Option Bool
  | .bl b => some b
  | _ => none
def dTru (d : DE) : DT := fun env m => (d env m).bind fun w m1 => liftB (truW w m1) m1
/-- the value is a truth -/
def dTst (d : DE) : DT := fun env m => (d env m).bind fun w m1 => liftB (blW w) m1
def dAnd (a b : DT) : DT := fun env m => (a env m).bind fun c m1 => if c = true then b env m1 else .ok false m1
def dOr (a b : DT) : DT := fun env m => (a env m).bind fun c m1 => if c = true then .ok true m1 else b env m1
def dNot (a : DT) : DT := fun env m => (a env m).bind fun c m1 => .ok (!c) m1
def dIf (t : DT) (a b : DE) : DE := fun env m => (t env m).bind fun c m1 => if c = true then a env m1 else b env m1
def dAndV (a b : DE) : DE := fun env m => (a env m).bind fun w m1 => (liftB (truW w m1) m1).bind fun c m2 => if c = true then b env m2 else .ok w m2
def dOrV (a b : DE) : DE := fun env m => (a env m).bind fun w m1 => (liftB (truW w m1) m1).bind fun c m2 => if c = true then .ok w m2 else b env m2
def dNotV (a : DE) : DE := fun env m => (a env m).bind fun w m1 => (liftB (truW w m1) m1).bind fun c m2 => .ok (.bl (!c)) m2
def dChn (f g : Op2) (a b c : DE) : DE := fun env m => (a env m).bind fun x m1 => (b env m1).bind fun y m2 => (lift (f x y m2)).bind fun z m3 => (liftB (blW z) m3).bind fun k m4 =>
  if k = true then (c env m4).bind fun w m5 => lift (g y w m5) else .ok (.bl false) m4
theorem emp_of {K : PySem.W.Frag} {hot : Option Hot} {r : Nat → Addr} {n : Nat} {H : Hp} {l : List W} {vs : List V} (h : VRs K hot r n H l vs) : (!l.isEmpty) = !vs.isEmpty := by
  cases h <;> rfl
theorem tru_of {K : PySem.W.Frag} {hot : Option Hot} {r : Nat → Addr} {m : Mem} {H : Hp} (R : Rep K hot r m H) {w : W} {v : V} {b : Bool} (hv : VR K hot r m.length H w v) (h : truW w m = some b) : TruV K v H b := by
  cases hv with
  | non => cases h; rfl
  | bl c => cases h; rfl
  | int i => cases h; rfl
  | str x =>
    unfold truW at h
    dsimp only at h
    by_cases c : x.length ≤ 100000
    · rw [if_pos c] at h
      cases h
      exact ⟨line_le c, rfl⟩
    · rw [if_neg c] at h
      cases h
  | tup hs hl =>
    cases h
    exact .inr (.inl ⟨_, hs, emp_of hl⟩)
  | ref hk =>
    rename_i k
    have h : (match m[k]? with
      | some (.lst l) => some (!l.isEmpty)
      | some (.fro l) => some (!l.isEmpty)
      | none => none) = some b := h
    cases q : m[k]? with
    | none => rw [q] at h; cases h
    | some o =>
      have ob := R.ob k o q
      rw [q] at h
      cases o with
      | lst l =>
        cases h
        obtain ⟨vs, h1, h2⟩ := ob
        exact .inl ⟨vs, SqL.of h1, emp_of h2⟩
      | fro l =>
        cases h
        obtain ⟨vs, h1, h2⟩ := ob
        exact .inl ⟨vs, h1.sq, emp_of h2⟩
  | fn x => cases h
  | exv q => cases h
section
variable {X : Cx} {hot : Option Hot} {x : WX} {e a b c : Expr} {es rest : List Expr} {d da db dc : DE} {t ta tb : DT} {pos : Pos}
theorem jt_tru (h : JE X hot x e d) (he : ∀ whole, isTrue e X.env whole = (do let v ← whole; standAt e.pos; holding [v] (truthy v)) := by intro _; rfl) : JT X hot x e (dTru d) :=
  pt_imp (pt_truth h he) fun s H Q ⟨r, m, env, R, E, w⟩ => ⟨r, m, env, R, E, (Wp.bind w).imp fun u r1 m1 H1 S1 w1 v hv => by
    cases q : truW u m1 with
    | none => rw [q] at w1; exact w1.elim
    | some b =>
      rw [q] at w1
      exact ⟨b, tru_of S1.rep hv q, w1 r1 H1 (Step.refl S1.rep)⟩⟩
theorem tst_of {K : PySem.W.Frag} {s : L2.St} {H : Hp} {Q : Bool → Hp → Prop} (h : tT K hot x (dTst d) s H Q) : tTest (tE K hot x d) s H Q := by
  obtain ⟨r, m, env, R, E, w⟩ := h
  refine ⟨r, m, env, R, E, (Wp.bind w).imp fun u r1 m1 H1 S1 w1 v hv => ?_⟩
  cases hv with
  | bl b => exact ⟨b, rfl, w1 r1 H1 (Step.refl S1.rep)⟩
  | _ => exact w1.elim
theorem tE_op {K : PySem.W.Frag} {f : Op2} {s : L2.St} {H : Hp} {Q : VK} (h : tE K hot x (dOp f da db) s H Q) : tOp (rOf K hot f) (tE K hot x da) (tE K hot x db) s H Q := dop_of h
theorem jt_cmp {op : CmpOp} {f : Op2} (ho : OpR X (compareOp op) (rOf X.K hot f)) (ha : JE X hot x a da) (hb : JE X hot x b db) (hm : behindInMarks op b = false) : JT X hot x (.Compare a [op] [b] pos) (dTst (dOp f da db)) :=
  pt_imp (pt_cmpR ho ha hb hm) fun s H Q h => tE_op (tst_of h)
theorem chn_of {K : PySem.W.Frag} {f g : Op2} {s : L2.St} {H : Hp} {Q : VK} (h : tE K hot x (dChn f g da db dc) s H Q) : tChain (rOf K hot f) (rOf K hot g) (tE K hot x da) (tE K hot x db) (tE K hot x dc) s H Q := by
  obtain ⟨r, m, env, R, E, w⟩ := h
  refine ⟨r, m, env, R, E, (Wp.bind w).imp fun u r1 m1 H1 S1 w1 va hva => ⟨r1, m1, env, S1.rep, E.step S1, (Wp.bind w1).imp fun u2 r2 m2 H2 S2 w2 vb hvb => ⟨r2, m2, u, u2, S2.rep, S2.vr hva, hvb, ?_⟩⟩⟩
  refine Wo.of (x := x) (s := s) ((Wp.bind w2).imp fun z r3 m3 H3 S3 w3 vz hz => ?_)
  cases hz with
  | bl k =>
    refine ⟨k, rfl, ?_⟩
    cases k with
    | true =>
      have w3 : Wp K hot x s r3 m3 H3 ((dc env m3).bind fun w m5 => lift (g u2 w m5)) _ := w3
      refine ⟨r3, m3, env, S3.rep, (E.step S1).step (S2.trans S3), (Wp.bind w3).imp fun u4 r4 m4 H4 S4 w4 vc hvc => ⟨r4, m4, u2, u4, S4.rep, S4.vr (S3.vr hvb), hvc, Wo.of w4⟩⟩
    | false => exact w3 r3 H3 (Step.refl S3.rep) _ (.bl false)
  | _ => exact w3.elim
theorem je_chn {op op' : CmpOp} {f g : Op2} (ho : OpR X (compareOp op) (rOf X.K hot f)) (ho' : OpR X (compareOp op') (rOf X.K hot g)) (ha : JE X hot x a da) (hb : JE X hot x b db) (hc : JE X hot x c dc)
    (hm : lastMarks [op, op'] [b, c] = false := by with_unfolding_all rfl) : JE X hot x (.Compare a [op, op'] [b, c] pos) (dChn f g da db dc) := pe_imp (pe_chain ho ho' ha hb hc hm) fun s H Q h => chn_of h
theorem jt_chn {op op' : CmpOp} {f g : Op2} (ho : OpR X (compareOp op) (rOf X.K hot f)) (ho' : OpR X (compareOp op') (rOf X.K hot g)) (ha : JE X hot x a da) (hb : JE X hot x b db) (hc : JE X hot x c dc)
    (hm : lastMarks [op, op'] [b, c] = false := by with_unfolding_all rfl) : JT X hot x (.Compare a [op, op'] [b, c] pos) (dTst (dChn f g da db dc)) := pt_imp (pt_chain ho ho' ha hb hc hm) fun s H Q h => chn_of (tst_of h)
theorem jw_and1 (h : JT X hot x a ta) : JW X hot x (.BoolOp .And [a] pos) ta := pw_and1 h
theorem jw_or1 (h : JT X hot x a ta) : JW X hot x (.BoolOp .Or [a] pos) ta := pw_or1 h
theorem jw_and (h : JT X hot x a ta) (h2 : JW X hot x (.BoolOp .And (b :: rest) pos) tb) : JW X hot x (.BoolOp .And (a :: b :: rest) pos) (dAnd ta tb) := pw_imp (pw_and h h2) fun s H Q ⟨r, m, env, R, E, w⟩ =>
  ⟨r, m, env, R, E, (Wp.bind w).imp fun c r1 m1 H1 S1 w1 => by
    cases c with
    | true => exact ⟨r1, m1, env, S1.rep, E.step S1, w1⟩
    | false => exact w1 r1 H1 (Step.refl S1.rep)⟩
theorem jw_or (h : JT X hot x a ta) (h2 : JW X hot x (.BoolOp .Or (b :: rest) pos) tb) : JW X hot x (.BoolOp .Or (a :: b :: rest) pos) (dOr ta tb) := pw_imp (pw_or h h2) fun s H Q ⟨r, m, env, R, E, w⟩ =>
  ⟨r, m, env, R, E, (Wp.bind w).imp fun c r1 m1 H1 S1 w1 => by
    cases c with
    | true => exact w1 r1 H1 (Step.refl S1.rep)
    | false => exact ⟨r1, m1, env, S1.rep, E.step S1, w1⟩⟩
theorem jt_bool (h : JW X hot x a ta) : JT X hot x a ta := PW.pt h
theorem jt_not (h : JT X hot x a ta) : JT X hot x (.UnaryOp .Not a pos) (dNot ta) := pt_imp (pt_not h) fun s H Q ⟨r, m, env, R, E, w⟩ =>
  ⟨r, m, env, R, E, (Wp.bind w).imp fun c r1 m1 H1 S1 w1 => w1 r1 H1 (Step.refl S1.rep)⟩
theorem je_if (h : JT X hot x c t) (ha : JE X hot x a da) (hb : JE X hot x b db) : JE X hot x (.IfExp c a b pos) (dIf t da db) := pe_imp (pe_ifExp h ha hb) fun s H Q ⟨r, m, env, R, E, w⟩ =>
  ⟨r, m, env, R, E, (Wp.bind w).imp fun c r1 m1 H1 S1 w1 => by
    cases c with
    | true => exact ⟨r1, m1, env, S1.rep, E.step S1, w1⟩
    | false => exact ⟨r1, m1, env, S1.rep, E.step S1, w1⟩⟩
theorem je_one {op} (h : JE X hot x a da) : JE X hot x (.BoolOp op [a] pos) da := pe_one h
theorem trb {K : PySem.W.Frag} {s : L2.St} {r1 : Nat → Addr} {m1 : Mem} {H1 : Hp} {β : Type} {u : W} {f : Bool → Mem → Out β} {Rr : β → (Nat → Addr) → Mem → Hp → Prop} {v : V} (R : Rep K hot r1 m1 H1) (hv : VR K hot r1 m1.length H1 u v)
    (w : Wp K hot x s r1 m1 H1 ((liftB (truW u m1) m1).bind f) Rr) : ∃ k, TruV K v H1 k ∧ Wp K hot x s r1 m1 H1 (f k m1) Rr := by
  cases q : truW u m1 with
  | none => rw [q] at w; exact w.elim
  | some b =>
    rw [q] at w
    exact ⟨b, tru_of R hv q, w⟩
theorem je_and (ha : JE X hot x a da) (hb : JE X hot x (.BoolOp .And (b :: rest) pos) db) : JE X hot x (.BoolOp .And (a :: b :: rest) pos) (dAndV da db) := pe_imp (pe_andT ha hb) fun s H Q ⟨r, m, env, R, E, w⟩ =>
  ⟨r, m, env, R, E, (Wp.bind w).imp fun u r1 m1 H1 S1 w1 v hv => by
    obtain ⟨k, hk, w2⟩ := trb S1.rep hv w1
    refine ⟨k, hk, ?_⟩
    cases k with
    | true => exact ⟨r1, m1, env, S1.rep, E.step S1, w2⟩
    | false => exact w2 r1 H1 (Step.refl S1.rep) v hv⟩
theorem je_or (ha : JE X hot x a da) (hb : JE X hot x (.BoolOp .Or (b :: rest) pos) db) : JE X hot x (.BoolOp .Or (a :: b :: rest) pos) (dOrV da db) := pe_imp (pe_orT ha hb) fun s H Q ⟨r, m, env, R, E, w⟩ =>
  ⟨r, m, env, R, E, (Wp.bind w).imp fun u r1 m1 H1 S1 w1 v hv => by
    obtain ⟨k, hk, w2⟩ := trb S1.rep hv w1
    refine ⟨k, hk, ?_⟩
    cases k with
    | true => exact w2 r1 H1 (Step.refl S1.rep) v hv
    | false => exact ⟨r1, m1, env, S1.rep, E.step S1, w2⟩⟩
theorem je_not (ha : JE X hot x a da) : JE X hot x (.UnaryOp .Not a pos) (dNotV da) := pe_imp (pe_notT ha) fun s H Q ⟨r, m, env, R, E, w⟩ =>
  ⟨r, m, env, R, E, (Wp.bind w).imp fun u r1 m1 H1 S1 w1 v hv => by
    obtain ⟨k, hk, w2⟩ := trb S1.rep hv w1
    exact ⟨k, hk, w2 r1 H1 (Step.refl S1.rep) _ (.bl _)⟩⟩
end

/-! ### statements -/
/-- an expression's outcome into a statement's -/
def toS {α : Type} (env : Env) (o : Out α) (f : α → Mem → Ou) : Ou := match o with
  | .ok a m => f a m
  | .exc e m => .exc e env m
  | .bad => .bad
def thenS (o : Ou) (f : Env → Mem → Ou) : Ou := match o with
  | .fl (.nx env) m => f env m
  | o => o
def sNext : DS := fun env m => .fl (.nx env) m
def sBreak : DS := fun env m => .fl (.bk env) m
def sCont : DS := fun env m => .fl (.ct env) m
def sSeq (a b : DS) : DS := fun env m => thenS (a env m) b
def sExpr (d : DE) : DS := fun env m => toS env (d env m) fun _ m1 => .fl (.nx env) m1
def sRet (d : DE) : DS := fun env m => toS env (d env m) fun w m1 => .fl (.rt w) m1
def sRetN : DS := fun _ m => .fl (.rt .non) m
def sIf (t : DT) (a b : DS) : DS := fun env m => toS env (t env m) fun c m1 => if c = true then a env m1 else b env m1
def sSet (d : DE) (g : DG) : DS := fun env m => toS env (d env m) fun w m1 => toS env (g w env m1) fun env2 m2 => .fl (.nx env2) m2
section
variable {K : PySem.W.Frag} {hot : Option Hot} {x : WX} {r : Nat → Addr} {m : Mem} {H : Hp} {env : Env} {s : L2.St} {D : Ends}
theorem toS_of {α : Type} {o : Out α} {f : α → Mem → Ou} (E : ER K hot r m.length H env s) (h : WpS K hot x r m H (toS env o f) D) : Wp K hot x s r m H o fun a r1 m1 H1 => WpS K hot x r1 m1 H1 (f a m1) D := by
  cases o with
  | ok a m1 => exact fun r' H' S => WpS.rebase S h
  | exc e m1 => exact fun r' H' cls d S he => h r' H' cls d s S (E.step S) he
  | bad => exact h
theorem thenS_of {o : Ou} {f : Env → Mem → Ou} (h : WpS K hot x r m H (thenS o f) D) : WpS K hot x r m H o { D with nx := tS K hot x f D } := by
  cases o with
  | fl g m1 => cases g with
    | nx env' => exact fun r' H' s' S E => ⟨r', m1, env', S.rep, E, WpS.rebase S h⟩
    | rt w => exact h
    | bk e => exact h
    | ct e => exact h
  | exc e env' m1 => exact h
  | bad => exact h
theorem WpS.nx (E : ER K hot r m.length H env s) (h : WpS K hot x r m H (.fl (.nx env) m) D) (R : Rep K hot r m H) : D.nx s H := h r H s (Step.refl R) E
end
section
variable {X : Cx} {hot : Option Hot} {x : WX} {e a b c : Expr} {st : Stmt} {p q rest : List Stmt} {d da db : DE} {t : DT} {u v : DS} {pos : Pos}
theorem jb_nil : JB X hot x [] sNext := pss_imp pss_nil fun D s H ⟨r, m, env, R, E, w⟩ => w.nx E R
theorem jb_cons (h : JS X hot x st u) (h2 : JB X hot x rest v) : JB X hot x (st :: rest) (sSeq u v) := pss_imp (pss_cons h h2) fun D s H ⟨r, m, env, R, E, w⟩ => ⟨r, m, env, R, E, thenS_of w⟩
theorem jb_one (h : JS X hot x st u) : JB X hot x [st] u := pss_one h
theorem js_pass : JS X hot x (.Pass pos) sNext := ps_imp ps_pass fun D s H ⟨r, m, env, R, E, w⟩ => w.nx E R
theorem js_break : JS X hot x (.Break pos) sBreak := ps_imp ps_break fun D s H ⟨r, m, env, R, E, w⟩ => w r H s (Step.refl R) E
theorem js_cont : JS X hot x (.Continue pos) sCont := ps_imp ps_continue fun D s H ⟨r, m, env, R, E, w⟩ => w r H s (Step.refl R) E
theorem js_doc {y j pos'} : JS X hot x (.Expr (.Constant (.str y) j pos) pos') sNext := ps_imp ps_doc fun D s H ⟨r, m, env, R, E, w⟩ => w.nx E R
theorem js_expr (he : JE X hot x e d) (hs : swapsWith e none pos.line X.env = pure false := by rfl) : JS X hot x (.Expr e pos) (sExpr d) := ps_imp (ps_expr he hs) fun D s H ⟨r, m, env, R, E, w⟩ =>
  ⟨r, m, env, R, E, (toS_of E w).imp fun a r1 m1 H1 S1 w1 v hv => w1.nx (E.step S1) S1.rep⟩
theorem js_ret (he : JE X hot x e d) : JS X hot x (.Return (some e) pos) (sRet d) := ps_imp (ps_ret he) fun D s H ⟨r, m, env, R, E, w⟩ =>
  ⟨r, m, env, R, E, (toS_of E w).imp fun a r1 m1 H1 S1 w1 v hv => w1 r1 H1 v (Step.refl S1.rep) hv⟩
theorem js_retN : JS X hot x (.Return none pos) sRetN := ps_imp ps_retN fun D s H ⟨r, m, env, R, E, w⟩ => w r H .non (Step.refl R) .non
theorem js_if (hc : JT X hot x c t) (h1 : JB X hot x p u) (h2 : JB X hot x q v) : JS X hot x (.If c p q pos) (sIf t u v) := ps_imp (ps_if hc h1 h2) fun D s H ⟨r, m, env, R, E, w⟩ =>
  ⟨r, m, env, R, E, (toS_of E w).imp fun b r1 m1 H1 S1 w1 => by
    cases b with
    | true => exact ⟨r1, m1, env, S1.rep, E.step S1, w1⟩
    | false => exact ⟨r1, m1, env, S1.rep, E.step S1, w1⟩⟩
end

/-! ### targets -/
def tGt (K : PySem.W.Frag) (hot : Option Hot) (x : WX) (g : DG) : TG := fun v s H Q => ∃ r m env w, Rep K hot r m H ∧ ER K hot r m.length H env s ∧ VR K hot r m.length H w v ∧
  Wp K hot x s r m H (g w env m) fun env' r' m' H' => ∀ s', ER K hot r' m'.length H' env' s' → Q s' H'
abbrev DGs := List W → Env → Mem → Out Env
def tGs (K : PySem.W.Frag) (hot : Option Hot) (x : WX) (g : DGs) : TGs := fun vs s H Q => ∃ r m env ws, Rep K hot r m H ∧ ER K hot r m.length H env s ∧ VRs K hot r m.length H ws vs ∧
  Wp K hot x s r m H (g ws env m) fun env' r' m' H' => ∀ s', ER K hot r' m'.length H' env' s' → Q s' H'
abbrev JG (X : Cx) (hot : Option Hot) (x : WX) (e : Expr) (g : DG) : Prop := PG X e (tGt X.K hot x g)
abbrev JGs (X : Cx) (hot : Option Hot) (x : WX) (es : List Expr) (g : DGs) : Prop := PGs X es (tGs X.K hot x g)
def gNam (i : Nat) : DG := fun w env m => .ok (env.set i (some w)) m
def gNl : DGs := fun ws env m => match ws with
  | [] => .ok env m
  | _ => .bad
/-- the targets are names (no exception comes from a store) -/
def gCn (g : DG) (gs : DGs) : DGs := fun ws env m => match ws with
  | w :: r => (match g w env m with
    | .ok env1 m1 => (match gs r env1 m1 with
      | .ok env2 m2 => .ok env2 m2
      | _ => .bad)
    | _ => .bad)
  | [] => .bad
def gTp (n : Nat) (g : DGs) : DG := fun w env m => match w with
  | .tup l => if l.length = n then g l env m else .bad
  | _ => .bad
theorem pg_imp {X : Cx} {e : Expr} {t t' : TG} (h : PG X e t) (k : ∀ v s H Q, t' v s H Q → t v s H Q) : PG X e t' := ⟨fun pins s σ H v u Q I r q => h.run pins s σ H v u Q I r (k v σ H Q q)⟩
theorem pgs_imp {X : Cx} {e : List Expr} {t t' : TGs} (h : PGs X e t) (k : ∀ v s H Q, t' v s H Q → t v s H Q) : PGs X e t' := ⟨fun pins s σ H v u Q I r q => h.run pins s σ H v u Q I r (k v σ H Q q)⟩
section
variable {X : Cx} {hot : Option Hot} {x : WX} {e : Expr} {es : List Expr} {g : DG} {gs : DGs} {d : DE} {pos : Pos}
theorem jg_name {i : Nat} (h : PG X e (gName i)) : JG X hot x e (gNam i) := pg_imp h fun v s H Q ⟨r, m, env, w, R, E, hv, q⟩ => q r H (Step.refl R) _ (E.set hv i)
theorem jgs_nil : JGs X hot x [] gNl := pgs_imp pgs_nil fun vs s H Q ⟨r, m, env, ws, R, E, hv, q⟩ => by
  cases hv with
  | nil => exact ⟨rfl, q r H (Step.refl R) _ E⟩
  | cons _ _ => exact q.elim
theorem jgs_cons (h1 : JG X hot x e g) (h2 : JGs X hot x es gs) (hs : (assignEach (e :: es) X.env).map (·.2) = assign e X.env :: (assignEach es X.env).map (·.2) := by rfl) : JGs X hot x (e :: es) (gCn g gs) := pgs_imp (pgs_cons h1 h2 hs) fun vs s H Q ⟨r, m, env, ws, R, E, hv, q⟩ => by
  cases hv with
  | nil => exact q.elim
  | @cons w ws v vs' hw hr =>
    refine ⟨v, vs', rfl, r, m, env, w, R, E, hw, ?_⟩
    unfold gCn at q
    dsimp only at q
    cases e : g w env m with
    | ok env1 m1 =>
      rw [e] at q
      intro r1 H1 S1 s1 E1
      refine ⟨r1, m1, env1, ws, S1.rep, E1, S1.vrs hr, ?_⟩
      dsimp only at q
      cases e2 : gs ws env1 m1 with
      | ok env2 m2 =>
        rw [e2] at q
        exact fun r2 H2 S2 => q r2 H2 (S1.trans S2)
      | exc e3 m2 => rw [e2] at q; exact q.elim
      | bad => rw [e2] at q; exact q.elim
    | exc e m1 => rw [e] at q; exact q.elim
    | bad => rw [e] at q; exact q.elim
end
end Nw
set_option Elab.async false
set_option linter.all false
set_option maxRecDepth 100000
set_option maxHeartbeats 1000000
namespace Nw
open PySem PySem.Spec PyProof.Rows L2

/-! ### assignments -/
section
variable {X : Cx} {hot : Option Hot} {x : WX} {e a b c : Expr} {es : List Expr} {st : Stmt} {d da db : DE} {ds : DA} {g : DG} {gs : DGs} {t : DT} {u v : DS} {pos : Pos}
theorem asg_of {K : PySem.W.Frag} {D : Ends} {s : L2.St} {H : Hp} (h : tS K hot x (sSet d g) D s H) : tAsg (tE K hot x d) (tGt K hot x g) D s H := by
  obtain ⟨r, m, env, R, E, w⟩ := h
  refine ⟨r, m, env, R, E, (toS_of E w).imp fun u r1 m1 H1 S1 w1 v hv => ⟨r1, m1, env, u, S1.rep, E.step S1, hv, ?_⟩⟩
  exact (toS_of (E.step S1) w1).imp fun env2 r2 m2 H2 S2 w2 s' E2 => w2.nx E2 S2.rep
theorem gnam_of {K : PySem.W.Frag} {i : Nat} {v : V} {s : L2.St} {H : Hp} {Q : L2.St → Hp → Prop} (h : tGt K hot x (gNam i) v s H Q) : gName i v s H Q := by
  obtain ⟨r, m, env, w, R, E, hv, q⟩ := h
  exact q r H (Step.refl R) _ (E.set hv i)
/-- name = e, by HandS's ps_set -/
theorem js_set {i : Nat} (h : PS X st (tAsg (tE X.K hot x d) (gName i))) : JS X hot x st (sSet d (gNam i)) := ps_imp h fun D s H q => by
  obtain ⟨r, m, env, R, E, w⟩ := asg_of q
  exact ⟨r, m, env, R, E, w.imp fun u r1 m1 H1 S1 w1 v hv => gnam_of (w1 v hv)⟩
/-- any target -/
theorem js_asg {tg : Expr} (he : JE X hot x e d) (hg : JG X hot x tg g) (hs : swapsWithSole [tg] e pos.line X.env = pure false := by rfl) (hw : swappedStores [tg] e X.env = pure none := by rfl)
    (h1 : (assignEach [tg] X.env).map (·.2) = [assign tg X.env] := by rfl) : JS X hot x (.Assign [tg] e pos) (sSet d g) := ps_imp (ps_asg he hg hs hw h1) fun D s H q => asg_of q
theorem jg_tup {k : Nat} {n : Nat} (hc : X.calm = true) (h : JGs X hot x es gs) (hn : (assignEach es X.env).length = n := by rfl) (hst : (assignEach es X.env).findIdx? (·.1) = none := by rfl) : JG X hot x (.Tuple es k pos) (gTp n gs) := pg_imp (pg_tup hc h hn hst) fun v s H Q ⟨r, m, env, w, R, E, hv, q⟩ => by
  cases hv with
  | @tup ws a vs hs hws =>
    unfold gTp at q
    dsimp only at q
    by_cases hl : ws.length = n
    · rw [if_pos hl] at q
      exact ⟨a, vs, rfl, hs, by rw [← hws.length]; exact hl, r, m, env, ws, R, E, hws, q⟩
    · rw [if_neg hl] at q
      exact q.elim
  | _ => exact q.elim
/-- a, b = e1, e2, both plain names -/
def sPar (i j : Nat) (a : DA) : DS := fun env m => toS env (a env m) fun ws m1 => match ws with
  | [v, w] => .fl (.nx ((env.set i (some v)).set j (some w))) m1
  | _ => .bad
theorem js_par {i j : Nat} (h : PS X st (tPar i j (tA X.K hot x ds))) : JS X hot x st (sPar i j ds) := ps_imp h fun D s H ⟨r, m, env, R, E, w⟩ =>
  ⟨r, m, env, R, E, (toS_of E w).imp fun ws r1 m1 H1 S1 w1 vs hv => by
    cases hv with
    | nil => exact w1.elim
    | cons h1 hv => cases hv with
      | nil => exact w1.elim
      | cons h2 hv => cases hv with
        | nil => exact ⟨_, _, rfl, w1.nx (((E.step S1).set h1 i).set h2 j) S1.rep⟩
        | cons _ _ => exact w1.elim⟩
/-- name += e -/
def sAug (i : Nat) (f : Op2) (d : DE) : DS := fun env m => match env[i]? with
  | some (some a) => toS env (d env m) fun b m1 => toS env (lift (f a b m1)) fun w m2 => .fl (.nx (env.set i (some w))) m2
  | _ => .bad
theorem js_aug {i : Nat} {f : Int → Int → Int} (h : PS X st (tAug i (tE X.K hot x d) (ipI f))) : JS X hot x st (sAug i (int2 fun p q => some (.int (f p q))) d) := ps_imp h fun D s H ⟨r, m, env, R, E, w⟩ => by
  unfold sAug at w
  cases q : env[i]? with
  | none => rw [q] at w; exact w.elim
  | some o => cases o with
    | none => rw [q] at w; exact w.elim
    | some a =>
      rw [q] at w
      obtain ⟨v, hv, ra⟩ := E.at_ i a q
      refine ⟨v, hv, r, m, env, R, E, (toS_of E w).imp fun b r1 m1 H1 S1 w1 vb hb => ?_⟩
      have w2 := toS_of (E.step S1) w1
      have ra1 := S1.vr ra
      clear w w1
      cases ra1 with
      | int p =>
        cases hb with
        | int q => exact ⟨p, q, rfl, rfl, (w2 r1 H1 (Step.refl S1.rep)).nx ((E.step S1).set (.int _) i) S1.rep⟩
        | _ => exact w2.elim
      | _ => exact w2.elim
end
/-! ### o[i] = e for a list -/
def setW (o i w : W) (m : Mem) : Option Mem := match o, i with
  | .ref k, .int j => (match lstOf m k with
    | some l => (ixN l.length j).map fun n => m.set k (.lst (l.set n w))
    | none => none)
  | _, _ => none
def liftU (env : Env) (o : Option Mem) : Out Env := match o with
  | some m => .ok env m
  | none => .bad
def gSb (a b : DE) : DG := fun w env m => (a env m).bind fun o m1 => (b env m1).bind fun i m2 => liftU env (setW o i w m2)
section
variable {X : Cx} {hot : Option Hot} {x : WX} {o i : Expr} {da db : DE} {pos : Pos}
theorem set_of {K : PySem.W.Frag} {r : Nat → Addr} {m m' : Mem} {H : Hp} {wo wi w : W} {vo vi v : V} {Q : Hp → Prop} (R : Rep K hot r m H) (h : setW wo wi w m = some m') (ho : VR K hot r m.length H wo vo) (hi : VR K hot r m.length H wi vi) (hw : VR K hot r m.length H w v)
    (q : ∀ r' H', Step K hot r m H r' m' H' → Q H') : rSetL vo vi v H Q := by
  unfold setW at h
  cases ho with
  | @ref k hk => cases hi with
    | int j =>
      dsimp only at h
      cases e : lstOf m k with
      | none => rw [e] at h; cases h
      | some l =>
        rw [e] at h
        dsimp only at h
        obtain ⟨n, e1, e2⟩ := Option.map_eq_some_iff.mp h
        subst e2
        obtain ⟨vs, h1, h2⟩ := R.lt (Rep.lst R e)
        rw [h2.length] at e1
        exact ⟨_, vs, j, n, rfl, rfl, h1, e1, q r _ (Step.put R (Rep.lst R e) (h2.set hw n))⟩
    | _ => cases h
  | _ => cases h
theorem jg_sub (ho : JE X hot x o da) (hi : JE X hot x i db)
    (ha : ∀ v, assign (.Subscript o i pos) X.env v = (do
      let ov ← holding [v] (eval o X.env)
      let iv ← holding [v, ov] (eval i X.env)
      standAt pos
      holding [v, ov, iv] (setItem ov iv v)
      release [v, ov, iv] []) := by intro _; rfl) : JG X hot x (.Subscript o i pos) (gSb da db) := pg_imp (pg_sub ho hi set_list ha) fun v s H Q ⟨r, m, env, w, R, E, hv, q⟩ => by
  refine ⟨r, m, env, R, E, (Wp.bind q).imp fun u r1 m1 H1 S1 w1 vo ho => ⟨r1, m1, env, S1.rep, E.step S1, (Wp.bind w1).imp fun u2 r2 m2 H2 S2 w2 vi hi => ?_⟩⟩
  cases e : setW u u2 w m2 with
  | none => rw [e] at w2; exact w2.elim
  | some m3 =>
    rw [e] at w2
    exact set_of S2.rep e (S2.vr ho) hi ((S1.trans S2).vr hv) fun r3 H3 S3 => w2 r3 H3 S3 _ (((E.step S1).step S2).step S3)
end

/-! ### what is walked -/
inductive Src where
  | lst (k : Nat) | tup (l : List W) | rng (lo : Int) (n : Nat) | enm (k : Nat) | zip (k j : Nat)
def seqAt (m : Mem) (k : Nat) : Option (List W) := match m[k]? with
  | some (.lst l) => some l
  | some (.fro l) => some l
  | none => none
/-- at a turn: an item, or the end; none: out of what is told here -/
def nextS (s : Src) (i : Nat) (m : Mem) : Option (Option W) := match s with
  | .lst k => (seqAt m k).map fun l => l[i]?
  | .tup l => some l[i]?
  | .rng lo n => some (if i < n then some (.int (lo + i)) else none)
  | .enm k => (seqAt m k).map fun l => (l[i]?).map fun w => .tup [.int (i : Int), w]
  | .zip k j => (match seqAt m k, seqAt m j with
    | some l, some l' => if l.length = l'.length then some (match l[i]?, l'[i]? with
      | some a, some b => some (.tup [a, b])
      | _, _ => none) else none
    | _, _ => none)
def turnsS (s : Src) (m : Mem) : Nat := match s with
  | .lst k => ((seqAt m k).getD []).length
  | .tup l => l.length
  | .rng _ n => n
  | .enm k => ((seqAt m k).getD []).length
  | .zip k _ => ((seqAt m k).getD []).length
abbrev DI := Env → Mem → Out Src
/-- the iterator J tells what s tells, from the state r, m, H on -/
def ItOk (K : PySem.W.Frag) (hot : Option Hot) (s : Src) (r0 : Nat → Addr) (m0 : Mem) (H0 : Hp) (J : It) : Prop :=
  ∀ (i : Nat) (r : Nat → Addr) (m : Mem) (H : Hp), Step K hot r0 m0 H0 r m H → (nextS s i m = some none → J.stop i H) ∧
    ∀ w, nextS s i m = some (some w) → J.go i H ∧ ∀ v H', J.yld i H v H' → Step K hot r m H r m H' ∧ VR K hot r m.length H' w v
def tI (K : PySem.W.Frag) (hot : Option Hot) (x : WX) (d : DI) : TI := fun s H R => ∃ r m env, Rep K hot r m H ∧ ER K hot r m.length H env s ∧
  Wp K hot x s r m H (d env m) fun src r' m' H' => ∀ J, ItOk K hot src r' m' H' J → R J H'
abbrev JI (X : Cx) (hot : Option Hot) (x : WX) (tg e : Expr) (d : DI) : Prop := PI X tg e (tI X.K hot x d)
theorem pi_imp {X : Cx} {tg e : Expr} {t t' : TI} (h : PI X tg e t) (k : ∀ s H Q, t' s H Q → t s H Q) : PI X tg e t' := ⟨fun pins s σ H Q I q => h.run pins s σ H Q I (k σ H Q q)⟩
theorem Rep.seq {K : PySem.W.Frag} {hot : Option Hot} {r : Nat → Addr} {m : Mem} {H : Hp} (R : Rep K hot r m H) {k : Nat} {l : List W} (h : seqAt m k = some l) : k < m.length ∧ ∃ vs, SqL K H (r k) vs ∧ VRs K hot r m.length H l vs := by
  unfold seqAt at h
  cases q : m[k]? with
  | none => rw [q] at h; cases h
  | some o =>
    have hk : k < m.length := (List.getElem?_eq_some_iff.mp q).1
    have ob := R.ob k o q
    rw [q] at h
    cases o with
    | lst l' =>
      cases h
      obtain ⟨vs, h1, h2⟩ := ob
      exact ⟨hk, vs, SqL.of h1, h2⟩
    | fro l' =>
      cases h
      obtain ⟨vs, h1, h2⟩ := ob
      exact ⟨hk, vs, h1.sq, h2⟩
def dIs (d : DE) : DI := fun env m => (d env m).bind fun w m1 => match w with
  | .ref k => (match seqAt m1 k with
    | some _ => .ok (.lst k) m1
    | none => .bad)
  | .tup l => .ok (.tup l) m1
  | _ => .bad
theorem sqlt {K : PySem.W.Frag} {hot : Option Hot} {r : Nat → Addr} {n : Nat} {H : Hp} {l : List W} {vs : List V} (h : VRs K hot r n H l vs) {i : Nat} : (l[i]? = none → vs.length ≤ i) ∧ ∀ w, l[i]? = some w → ∃ v, vs[i]? = some v ∧ VR K hot r n H w v :=
  ⟨fun e => by rw [← h.length]; exact List.getElem?_eq_none_iff.mp e, fun w e => h.get e⟩
theorem itl_ok {K : PySem.W.Frag} {hot : Option Hot} {r0 : Nat → Addr} {m0 : Mem} {H0 : Hp} {k : Nat} (hk : k < m0.length) : ItOk K hot (.lst k) r0 m0 H0 (Itl K (r0 k)) := by
  intro i r m H S
  have er : r k = r0 k := S.ext k hk
  constructor
  · intro h
    obtain ⟨l, e1, e2⟩ := Option.map_eq_some_iff.mp (show (seqAt m k).map (fun l => l[i]?) = some none from h)
    obtain ⟨_, vs, h1, h2⟩ := S.rep.seq e1
    rw [er] at h1
    exact ⟨vs, h1, (sqlt h2).1 e2⟩
  · intro w h
    obtain ⟨l, e1, e2⟩ := Option.map_eq_some_iff.mp (show (seqAt m k).map (fun l => l[i]?) = some (some w) from h)
    obtain ⟨_, vs, h1, h2⟩ := S.rep.seq e1
    rw [er] at h1
    obtain ⟨v, hv, rv⟩ := (sqlt h2).2 w e2
    refine ⟨⟨vs, v, h1, hv⟩, fun v' H' y => ?_⟩
    obtain ⟨eH, y2⟩ := y
    subst eH
    have := y2 vs h1
    rw [hv] at this
    cases this
    exact ⟨Step.refl S.rep, rv⟩
theorem itt_ok {K : PySem.W.Frag} {hot : Option Hot} {r0 : Nat → Addr} {m0 : Mem} {H0 : Hp} {l : List W} {a : Addr} {vs : List V} (hs : SqT K H0 a vs) (hv : VRs K hot r0 m0.length H0 l vs) : ItOk K hot (.tup l) r0 m0 H0 (Itt K a) := by
  intro i r m H S
  have h1 := S.kp.sqT hs
  have h2 := S.vrs hv
  constructor
  · intro h
    exact ⟨vs, h1, (sqlt h2).1 (Option.some.inj h)⟩
  · intro w h
    obtain ⟨v, hv', rv⟩ := (sqlt h2).2 w (Option.some.inj h)
    refine ⟨⟨vs, v, h1, hv'⟩, fun v' H' y => ?_⟩
    obtain ⟨eH, y2⟩ := y
    subst eH
    have := y2 vs h1
    rw [hv'] at this
    cases this
    exact ⟨Step.refl S.rep, rv⟩
theorem itr_ok {K : PySem.W.Frag} {hot : Option Hot} {r0 : Nat → Addr} {m0 : Mem} {H0 : Hp} {lo : Int} {n : Nat} : ItOk K hot (.rng lo n) r0 m0 H0 (Itr lo n) := by
  intro i r m H S
  constructor
  · intro h
    have h : (if i < n then some (W.int (lo + i)) else none) = none := Option.some.inj h
    by_cases c : i < n
    · rw [if_pos c] at h
      cases h
    · exact Nat.le_of_not_lt c
  · intro w h
    have h : (if i < n then some (W.int (lo + i)) else none) = some w := Option.some.inj h
    by_cases c : i < n
    · rw [if_pos c] at h
      cases h
      refine ⟨c, fun v' H' y => ?_⟩
      obtain ⟨eH, y2⟩ := y
      subst eH y2
      exact ⟨Step.refl S.rep, .int _⟩
    · rw [if_neg c] at h
      cases h
/-- the walk of a list, of a tuple, is begun -/
theorem goes_new {X : Cx} {pins : List (Addr × Obj)} {sl : L2.St} {H : Hp} {s : Shared} {tg : Expr} {R : It → Hp → Prop} {J : It} {tn : Nat → Heap → Prop} {ob : Obj} (I : Inv X pins sl H s) (q : R J H)
    (T : Turn X.prog X.w X.K tg J [s.heap.objs.size] s.heap.objs.size tn) (t0 : tn 0 (s.heap.push ob)) : PIE X pins sl tg R (.ref s.heap.objs.size) { s with heap := s.heap.push ob } := by
  have I2 : Inv X pins sl H { s with heap := s.heap.push ob } := I.kept (t' := s.toks) fun _ _ old => Heap.get?_push_of_some _ old
  refine ⟨_, [s.heap.objs.size], tn, J, H, rfl, I2, T, t0, fun b hb => ?_, q⟩
  rw [List.mem_singleton.mp hb]
  exact I.fpOk (Nat.le_refl _) (I.hok.fresh (Nat.le_refl _))
theorem it_lst {X : Cx} {pins : List (Addr × Obj)} {sl : L2.St} {H : Hp} {s : Shared} {tg : Expr} {R : It → Hp → Prop} {E : Value → Shared → Prop} {a : Addr} {vs : List V} (I : Inv X pins sl H s) (h : SqL X.K H a vs) (q : R (Itl X.K a) H) :
    wpAny (model X.prog X.w) X.A (pyIter (.ref a)) (PIE X pins sl tg R) E s := by
  obtain ⟨_, _, pl, _⟩ := I.list h
  exact wpAny_pyIter_list pl.isList (goes_new I q (turn_list a _) ⟨_, Heap.get?_push_size _ rfl, rfl, rfl⟩)
theorem it_tup {X : Cx} {pins : List (Addr × Obj)} {sl : L2.St} {H : Hp} {s : Shared} {tg : Expr} {R : It → Hp → Prop} {E : Value → Shared → Prop} {a : Addr} {vs : List V} (I : Inv X pins sl H s) (h : SqT X.K H a vs) (q : R (Itt X.K a) H) :
    wpAny (model X.prog X.w) X.A (pyIter (.ref a)) (PIE X pins sl tg R) E s := by
  obtain ⟨its, _, pl, _⟩ := I.tuple h
  exact wpAny_pyIter_tuple (show s.heap.IsTuple a its.toArray from pl) (goes_new I q (turn_tuple a _) ⟨_, Heap.get?_push_size _ rfl, rfl, rfl⟩)
/-- a list or a tuple, whichever comes -/
def tSeqI (K : PySem.W.Frag) (te : TE) : TI := fun s H R => te s H fun v H1 => ∃ a vs, v = .ref a ∧ ((SqL K H1 a vs ∧ R (Itl K a) H1) ∨ (SqT K H1 a vs ∧ R (Itt K a) H1))
theorem pi_seq {X : Cx} {tg l : Expr} {te : TE} (h : PE X l te) : PI X tg l (tSeqI X.K te) := ⟨fun pins s sl H R I q => thn (h.run pins s sl H _ I q) fun u s1 ⟨v, H1, I1, rv, a, vs, ev, w⟩ => by
  subst ev
  obtain rfl : u = Value.ref a := rv
  rcases w with ⟨hs, w⟩ | ⟨hs, w⟩
  · exact it_lst I1 hs w
  · exact it_tup I1 hs w⟩
section
variable {X : Cx} {hot : Option Hot} {x : WX} {tg e a b : Expr} {d : DE} {ds : DA} {pos p : Pos}
theorem ji_seq (h : JE X hot x e d) : JI X hot x tg e (dIs d) := pi_imp (pi_seq h) fun s H Q ⟨r, m, env, R, E, w⟩ => ⟨r, m, env, R, E, (Wp.bind w).imp fun u r1 m1 H1 S1 w1 v hv => by
  cases hv with
  | @ref k hk =>
    dsimp only at w1
    cases q : seqAt m1 k with
    | none => rw [q] at w1; exact w1.elim
    | some l =>
      rw [q] at w1
      obtain ⟨_, vs, h1, _⟩ := S1.rep.seq q
      exact ⟨_, vs, rfl, .inl ⟨h1, w1 r1 H1 (Step.refl S1.rep) _ (itl_ok hk)⟩⟩
  | @tup l a vs hs hl => exact ⟨a, vs, rfl, .inr ⟨hs, w1 r1 H1 (Step.refl S1.rep) _ (itt_ok hs hl)⟩⟩
  | _ => exact w1.elim⟩
def dRng1 (a : DA) : DI := fun env m => (a env m).bind fun ws m1 => match ws with
  | [.int j] => if -1000000 ≤ j ∧ j ≤ 1000000 then .ok (.rng 0 j.toNat) m1 else .bad
  | _ => .bad
def dRng2 (a : DA) : DI := fun env m => (a env m).bind fun ws m1 => match ws with
  | [.int i, .int j] => if -1000000 ≤ i ∧ i ≤ 1000000 ∧ -1000000 ≤ j ∧ j ≤ 1000000 then .ok (.rng i (j - i).toNat) m1 else .bad
  | _ => .bad
theorem ji_rng1 {ds : DA} (h : PI X tg e (iRng1 (tA X.K hot x ds))) : JI X hot x tg e (dRng1 ds) := pi_imp h fun s H Q ⟨r, m, env, R, E, w⟩ => ⟨r, m, env, R, E, (Wp.bind w).imp fun ws r1 m1 H1 S1 w1 vs hv => by
  cases hv with
  | nil => exact w1.elim
  | cons h1 h2 => cases h2 with
    | cons _ _ => cases h1 <;> exact w1.elim
    | nil => cases h1 with
      | int j =>
        dsimp only at w1
        by_cases c : -1000000 ≤ j ∧ j ≤ 1000000
        · rw [if_pos c] at w1
          exact ⟨j, rfl, by omega, by omega, w1 r1 H1 (Step.refl S1.rep) _ itr_ok⟩
        · rw [if_neg c] at w1
          exact w1.elim
      | _ => exact w1.elim⟩
theorem ji_rng2 {ds : DA} (h : PI X tg e (iRng2 (tA X.K hot x ds))) : JI X hot x tg e (dRng2 ds) := pi_imp h fun s H Q ⟨r, m, env, R, E, w⟩ => ⟨r, m, env, R, E, (Wp.bind w).imp fun ws r1 m1 H1 S1 w1 vs hv => by
  cases hv with
  | nil => exact w1.elim
  | cons h1 h2 => cases h2 with
    | nil => cases h1 <;> exact w1.elim
    | cons h2 h3 => cases h3 with
      | cons _ _ => cases h1 <;> cases h2 <;> exact w1.elim
      | nil => cases h1 with
        | int i => cases h2 with
          | int j =>
            dsimp only at w1
            by_cases c : -1000000 ≤ i ∧ i ≤ 1000000 ∧ -1000000 ≤ j ∧ j ≤ 1000000
            · rw [if_pos c] at w1
              exact ⟨i, j, rfl, ⟨by omega, by omega, by omega, by omega⟩, w1 r1 H1 (Step.refl S1.rep) _ itr_ok⟩
            · rw [if_neg c] at w1
              exact w1.elim
          | _ => exact w1.elim
        | _ => cases h2 <;> exact w1.elim⟩
end

/-! ### loops -/
def loopL (src : Src) (g : DG) (body : DS) : Nat → Nat → Env → Mem → Ou
  | 0, _, _, _ => .bad
  | f + 1, i, env, m => match nextS src i m with
    | none => .bad
    | some none => .fl (.nx env) m
    | some (some w) => match g w env m with
      | .ok env2 m2 => (match body env2 m2 with
        | .fl (.nx env3) m3 => loopL src g body f (i + 1) env3 m3
        | .fl (.ct env3) m3 => loopL src g body f (i + 1) env3 m3
        | .fl (.bk env3) m3 => .fl (.nx env3) m3
        | .fl (.rt w) m3 => .fl (.rt w) m3
        | .exc e env3 m3 => .exc e env3 m3
        | .bad => .bad)
      | _ => .bad
def sFor (it : DI) (g : DG) (body : DS) : DS := fun env m => toS env (it env m) fun src m1 => loopL src g body (turnsS src m1 + 1) 0 env m1
def whileL (t : DT) (body : DS) : Nat → Env → Mem → Ou
  | 0, _, _ => .bad
  | f + 1, env, m => toS env (t env m) fun c m1 => if c = true then (match body env m1 with
      | .fl (.nx env3) m3 => whileL t body f env3 m3
      | .fl (.ct env3) m3 => whileL t body f env3 m3
      | .fl (.bk env3) m3 => .fl (.nx env3) m3
      | .fl (.rt w) m3 => .fl (.rt w) m3
      | .exc e env3 m3 => .exc e env3 m3
      | .bad => .bad) else .fl (.nx env) m1
def fuelW : Nat := 100000
def sWhile (t : DT) (body : DS) : DS := whileL t body fuelW
section
variable {X : Cx} {hot : Option Hot} {x : WX} {tg it c : Expr} {body : List Stmt} {d : DI} {g : DG} {u : DS} {t : DT} {pos : Pos}
/-- what a body's end must give for the next turn -/
theorem body_of {K : PySem.W.Frag} {r : Nat → Addr} {m : Mem} {H : Hp} {D : Ends} {o : Ou} {k : Env → Mem → Ou} {N : L2.St → Hp → Prop}
    (h : WpS K hot x r m H (match o with
        | .fl (.nx env3) m3 => k env3 m3
        | .fl (.ct env3) m3 => k env3 m3
        | .fl (.bk env3) m3 => .fl (.nx env3) m3
        | .fl (.rt w) m3 => .fl (.rt w) m3
        | .exc e env3 m3 => .exc e env3 m3
        | .bad => .bad) D)
    (hn : ∀ env3 m3 r' H' s', Step K hot r m H r' m3 H' → ER K hot r' m3.length H' env3 s' → WpS K hot x r' m3 H' (k env3 m3) D → N s' H') : WpS K hot x r m H o { D with nx := N, ct := N, bk := D.nx } := by
  cases o with
  | fl f m3 => cases f with
    | nx env3 => exact fun r' H' s' S E => hn env3 m3 r' H' s' S E (WpS.rebase S h)
    | ct env3 => exact fun r' H' s' S E => hn env3 m3 r' H' s' S E (WpS.rebase S h)
    | bk env3 => exact h
    | rt w => exact h
  | exc e env3 m3 => exact h
  | bad => exact h
theorem js_for (hp : PassesOwn (model X.prog X.w) X.A X.env X.xe) (hc : X.calm = true) (hi : JI X hot x tg it d) (hg : JG X hot x tg g) (hb : JB X hot x body u) (hs : ∀ y, foldedSetIterable it X.env y = pure y := by intro _; rfl) :
    JS X hot x (.For tg it body [] pos) (sFor d g u) := ps_imp (ps_for hp hc hi hg hb hs) fun D s H ⟨r, m, env, R, E, w⟩ => ⟨r, m, env, R, E, (toS_of E w).imp fun src r1 m1 H1 S1 w1 J hJ => by
  refine ⟨fun i n s2 H2 => ∃ r2 m2 env2, Step X.K hot r1 m1 H1 r2 m2 H2 ∧ ER X.K hot r2 m2.length H2 env2 s2 ∧ WpS X.K hot x r2 m2 H2 (loopL src g u n i env2 m2) D, ⟨_, r1, m1, env, Step.refl S1.rep, E.step S1, w1⟩, ?_⟩
  rintro i n s2 H2 ⟨r2, m2, env2, S2, E2, w2⟩
  obtain ⟨hstop, hgo⟩ := hJ i r2 m2 H2 S2
  cases n with
  | zero => exact w2.elim
  | succ n =>
    unfold loopL at w2
    cases q : nextS src i m2 with
    | none => rw [q] at w2; exact w2.elim
    | some o =>
      cases o with
      | none =>
        rw [q] at w2
        exact .inl ⟨hstop q, w2.nx E2 S2.rep⟩
      | some v =>
        rw [q] at w2
        dsimp only at w2
        obtain ⟨go, yl⟩ := hgo v q
        refine .inr ⟨go, fun s3 H3 => ∃ r3 m3 env3, Step X.K hot r1 m1 H1 r3 m3 H3 ∧ ER X.K hot r3 m3.length H3 env3 s3 ∧ WpS X.K hot x r3 m3 H3 (loopL src g u n (i + 1) env3 m3) D,
          fun s3 H3 h3 => ⟨n, Nat.lt_succ_self n, h3⟩, fun y H3 hy => ?_⟩
        obtain ⟨S3, rv⟩ := yl y H3 hy
        refine ⟨r2, m2, env2, v, S3.rep, E2.step S3, rv, ?_⟩
        cases e : g v env2 m2 with
        | ok env3 m3 =>
          rw [e] at w2
          dsimp only at w2
          intro r4 H4 S4 s4 E4
          refine ⟨r4, m3, env3, S4.rep, E4, body_of (WpS.rebase (S3.trans S4) w2) fun env5 m5 r5 H5 s5 S5 E5 w5 => ?_⟩
          exact ⟨r5, m5, env5, ((S2.trans S3).trans S4).trans S5, E5, w5⟩
        | exc e m3 => rw [e] at w2; exact w2.elim
        | bad => rw [e] at w2; exact w2.elim⟩
theorem js_while (hp : PassesOwn (model X.prog X.w) X.A X.env X.xe) (hc : JT X hot x c t) (hb : JB X hot x body u) : JS X hot x (.While c body [] pos) (sWhile t u) := ps_imp (ps_while hp hc hb) fun D s H ⟨r, m, env, R, E, w⟩ => by
  refine ⟨fun n s2 H2 => ∃ r2 m2 env2, Rep X.K hot r2 m2 H2 ∧ ER X.K hot r2 m2.length H2 env2 s2 ∧ WpS X.K hot x r2 m2 H2 (whileL t u n env2 m2) D, ⟨fuelW, r, m, env, R, E, w⟩, ?_⟩
  rintro n s2 H2 ⟨r2, m2, env2, R2, E2, w2⟩
  cases n with
  | zero => exact w2.elim
  | succ n =>
    unfold whileL at w2
    refine ⟨r2, m2, env2, R2, E2, (toS_of E2 w2).imp fun b r3 m3 H3 S3 w3 => ?_⟩
    cases b with
    | false =>
      rw [if_neg Bool.false_ne_true] at w3
      exact w3.nx (E2.step S3) S3.rep
    | true =>
      rw [if_pos rfl] at w3
      refine ⟨fun s4 H4 => ∃ r4 m4 env4, Rep X.K hot r4 m4 H4 ∧ ER X.K hot r4 m4.length H4 env4 s4 ∧ WpS X.K hot x r4 m4 H4 (whileL t u n env4 m4) D, fun s4 H4 h4 => ⟨n, Nat.lt_succ_self n, h4⟩, ?_⟩
      exact ⟨r3, m3, env2, S3.rep, E2.step S3, body_of w3 fun env5 m5 r5 H5 s5 S5 E5 w5 => ⟨r5, m5, env5, S5.rep, E5, w5⟩⟩
end
end Nw
set_option Elab.async false
set_option linter.all false
set_option maxRecDepth 100000
set_option maxHeartbeats 1000000
namespace Nw
open PySem PySem.Spec PyProof.Rows L2

/-! ### comprehensions -/
def wipeE (env : Env) : List Nat → Env
  | [] => env
  | v :: vs => (wipeE env vs).set v none
theorem ER.wipe {K : PySem.W.Frag} {hot : Option Hot} {r : Nat → Addr} {n : Nat} {H : Hp} {env : Env} {s : L2.St} (E : ER K hot r n H env s) : ∀ vs : List Nat, ER K hot r n H (wipeE env vs) (L2.wipe s vs)
  | [] => E
  | v :: vs => (ER.wipe E vs).unset v
theorem wipe_in {s : L2.St} {i : Nat} (hi : i < s.length) : ∀ {vs : List Nat}, i ∈ vs → (L2.wipe s vs)[i]? = some none
  | v :: vs, h => by
    show ((L2.wipe s vs).set v none)[i]? = some none
    by_cases e : v = i
    · subst e
      rw [List.getElem?_set_self (by rw [L2.wipe_length]; exact hi)]
    · rw [List.getElem?_set_ne e]
      exact wipe_in hi ((List.mem_cons.mp h).resolve_left fun z => e z.symm)
theorem wipe_eq {s t : L2.St} {vs : List Nat} (hl : s.length = t.length) (h : ∀ i, i ∉ vs → s[i]? = t[i]?) : L2.wipe s vs = L2.wipe t vs := by
  refine List.ext_getElem? fun i => ?_
  by_cases hi : i ∈ vs
  · by_cases hl2 : i < s.length
    · rw [wipe_in hl2 hi, wipe_in (by rw [← hl]; exact hl2) hi]
    · rw [List.getElem?_eq_none (by rw [L2.wipe_length]; omega), List.getElem?_eq_none (by rw [L2.wipe_length]; omega)]
  · rw [L2.wipe_out hi, L2.wipe_out hi]
    exact h i hi
theorem wipe_set {s : L2.St} {vs : List Nat} {i : Nat} {v : Option V} (hi : i ∈ vs) : L2.wipe (s.set i v) vs = L2.wipe s vs := wipe_eq List.length_set fun j hj => by
  rw [List.getElem?_set_ne]
  intro z
  subst z
  exact hj hi
theorem wipe_wipe (s : L2.St) (vs : List Nat) : L2.wipe (L2.wipe s vs) vs = L2.wipe s vs := wipe_eq (L2.wipe_length _ _) fun _ hj => L2.wipe_out hj
/-- a target of names: what it stores stands in the slots vs -/
def TgOk (K : PySem.W.Frag) (vs : List Nat) (tg : TG) (g : DG) : Prop := ∀ (r : Nat → Addr) (m : Mem) (H : Hp) (env : Env) (s : L2.St) (w : W) (v : V) (Q : L2.St → Hp → Prop), Rep K none r m H → ER K none r m.length H env s → VR K none r m.length H w v →
  (∃ env2, g w env m = .ok env2 m ∧ ∀ s2, ER K none r m.length H env2 s2 → L2.wipe s2 vs = L2.wipe s vs → Q s2 H) → tg v s H Q
theorem tg_name {K : PySem.W.Frag} {vs : List Nat} {i : Nat} (hi : i ∈ vs) : TgOk K vs (gName i) (gNam i) := fun r m H env s w v Q R E hv ⟨env2, e, q⟩ => by
  cases e
  exact q _ (E.set hv i) (wipe_set hi)
theorem tg_pair {K : PySem.W.Frag} {vs : List Nat} {i j : Nat} (hi : i ∈ vs) (hj : j ∈ vs) : TgOk K vs (gTup K 2 (gCons (gName i) (gCons (gName j) gNil))) (gTp 2 (gCn (gNam i) (gCn (gNam j) gNl))) := fun r m H env s w v Q R E hv ⟨env2, e, q⟩ => by
  cases hv with
  | @tup ws a us hs hws =>
    cases hws with
    | nil => cases e
    | cons h1 h2 => cases h2 with
      | nil => cases e
      | cons h2 h3 => cases h3 with
        | nil =>
          cases e
          exact ⟨a, _, rfl, hs, rfl, _, _, rfl, _, _, rfl, rfl, q _ ((E.set h1 i).set h2 j) ((wipe_set hj).trans (wipe_set hi))⟩
        | cons _ _ => cases e
  | _ => cases e
theorem tg_four {K : PySem.W.Frag} {vs : List Nat} {i j k l : Nat} (hi : i ∈ vs) (hj : j ∈ vs) (hk : k ∈ vs) (hl : l ∈ vs) : TgOk K vs (gTup K 4 (gCons (gName i) (gCons (gName j) (gCons (gName k) (gCons (gName l) gNil))))) (gTp 4 (gCn (gNam i) (gCn (gNam j) (gCn (gNam k) (gCn (gNam l) gNl))))) := fun r m H env s w v Q R E hv ⟨env2, e, q⟩ => by
  cases hv with
  | @tup ws a us hs hws =>
    cases hws with
    | nil => cases e
    | cons h1 h2 => cases h2 with
      | nil => cases e
      | cons h2 h3 => cases h3 with
        | nil => cases e
        | cons h3 h4 => cases h4 with
          | nil => cases e
          | cons h4 h5 => cases h5 with
            | nil =>
              cases e
              exact ⟨a, _, rfl, hs, rfl, _, _, rfl, _, _, rfl, _, _, rfl, _, _, rfl, rfl, q _ ((((E.set h1 i).set h2 j).set h3 k).set h4 l) ((wipe_set hl).trans ((wipe_set hk).trans ((wipe_set hj).trans (wipe_set hi))))⟩
            | cons _ _ => cases e
  | _ => cases e
def lcL (src : Src) (g : DG) (t : DT) (e : DE) (env0 : Env) (k : Nat) : Nat → Nat → Mem → Out Unit
  | 0, _, _ => .bad
  | f + 1, i, m => match nextS src i m with
    | none => .bad
    | some none => .ok () m
    | some (some w) => match g w env0 m with
      | .ok env2 m2 => (match t env2 m2 with
        | .ok true m3 => (match e env2 m3 with
          | .ok y m4 => (match lstOf m4 k with
            | some acc => if acc.length < 100000 then lcL src g t e env0 k f (i + 1) (m4.set k (.lst (acc ++ [y]))) else .bad
            | none => .bad)
          | _ => .bad)
        | .ok false m3 => lcL src g t e env0 k f (i + 1) m3
        | _ => .bad)
      | _ => .bad
def dLc (it : DI) (g : DG) (t : DT) (e : DE) (vs : List Nat) : DE := fun env m => (it env m).bind fun src m1 => (lcL src g t e (wipeE env vs) m1.length (turnsS src m1 + 1) 0 (m1 ++ [.lst []])).bind fun _ m2 => .ok (.ref m1.length) m2
def dYes : DT := fun _ m => .ok true m
/-- where nothing may be raised -/
abbrev noX : WX := fun _ _ _ _ => False
theorem lc_of {K : PySem.W.Frag} {x : WX} {d : DI} {tg : TG} {g : DG} {t : DT} {e : DE} {vs : List Nat} {s : L2.St} {H : Hp} {Q : VK} (ht : TgOk K vs tg g) (hm : ∀ w env m env2 m2, g w env m = .ok env2 m2 → m2 = m) (h : tE K none x (dLc d g t e vs) s H Q) :
    tLc (tI K none x d) tg (tT K none noX t) (tE K none noX e) vs s H Q := by
  obtain ⟨r, m, env, R, E, w⟩ := h
  refine ⟨r, m, env, R, E, (Wp.bind w).imp fun src r1 m1 H1 S1 w1 J hJ D hD => ?_⟩
  have E1 := E.step S1
  -- the new list
  have S2 : Step K none r1 m1 H1 (fun k => if k = m1.length then D else r1 k) (m1 ++ [.lst []]) (upd H1 D (.lst [])) := Step.newL S1.rep hD .nil
  generalize hr2 : (fun k => if k = m1.length then D else r1 k) = r2 at S2
  have rD : r2 m1.length = D := by rw [← hr2]; exact if_pos rfl
  have w2 := Wp.bind (Wp.rebase S2 w1)
  refine ⟨fun i n H3 => ∃ r3 m3, Step K none r2 (m1 ++ [.lst []]) (upd H1 D (.lst [])) r3 m3 H3 ∧ Wp K none x s r3 m3 H3 (lcL src g t e (wipeE env vs) m1.length n i m3) (fun _ r4 m4 H4 => Wp K none x s r4 m4 H4 (.ok (.ref m1.length) m4) fun w r' m' H' => ∀ v, VR K none r' m'.length H' w v → Q v H'),
    ⟨_, r2, _, Step.refl S2.rep, w2⟩, ?_⟩
  rintro i n H3 ⟨r3, m3, S3, w3⟩
  have lenk : m1.length < m3.length := by
    have := S3.le
    rw [List.length_append, List.length_singleton] at this
    omega
  have r3D : r3 m1.length = D := by
    rw [← rD]
    exact S3.ext _ (by rw [List.length_append, List.length_singleton]; omega)
  obtain ⟨hstop, hgo⟩ := hJ i r3 m3 H3 (S2.trans S3)
  cases n with
  | zero => exact w3.elim
  | succ n =>
    unfold lcL at w3
    cases q : nextS src i m3 with
    | none => rw [q] at w3; exact w3.elim
    | some o =>
      cases o with
      | none =>
        rw [q] at w3
        refine .inl ⟨hstop q, ?_⟩
        have w4 := (w3 r3 H3 (Step.refl S3.rep)) r3 H3 (Step.refl S3.rep) (.ref D) (by rw [← r3D]; exact .ref lenk)
        exact w4
      | some u =>
        rw [q] at w3
        dsimp only at w3
        obtain ⟨go, yl⟩ := hgo u q
        refine .inr ⟨go, fun H4 => ∃ r4 m4, Step K none r2 (m1 ++ [.lst []]) (upd H1 D (.lst [])) r4 m4 H4 ∧ Wp K none x s r4 m4 H4 (lcL src g t e (wipeE env vs) m1.length n (i + 1) m4) (fun _ r4 m4 H4 => Wp K none x s r4 m4 H4 (.ok (.ref m1.length) m4) fun w r' m' H' => ∀ v, VR K none r' m'.length H' w v → Q v H'),
          fun H4 h4 => ⟨n, Nat.lt_succ_self n, h4⟩, fun y H4 hy => ?_⟩
        obtain ⟨S4, rv⟩ := yl y H4 hy
        have E4 : ER K none r3 m3.length H4 (wipeE env vs) (L2.wipe s vs) := ((((E1.step S2).step S3).step S4)).wipe vs
        cases eg : g u (wipeE env vs) m3 with
        | ok env2 m4 =>
          have em := hm _ _ _ _ _ eg
          subst em
          rw [eg] at w3
          dsimp only at w3
          refine ht r3 m4 H4 _ _ u y _ S4.rep E4 rv ⟨env2, eg, fun s2 E5 hw => ⟨hw.trans (wipe_wipe s vs), ?_⟩⟩
          cases et : t env2 m4 with
          | ok b m5 =>
            rw [et] at w3
            refine ⟨r3, m4, env2, S4.rep, E5, ?_⟩
            rw [et]
            intro r5 H5 S5
            cases b with
            | false =>
              dsimp only at w3
              rw [if_neg Bool.false_ne_true]
              exact ⟨r5, m5, ((S3.trans S4).trans S5), Wp.rebase (S4.trans S5) w3⟩
            | true =>
              dsimp only at w3
              rw [if_pos rfl]
              cases ee : e env2 m5 with
              | ok z m6 =>
                rw [ee] at w3
                dsimp only at w3
                refine ⟨r5, m5, env2, S5.rep, E5.step S5, ?_⟩
                rw [ee]
                intro r6 H6 S6 vz hz
                cases el : lstOf m6 m1.length with
                | none => rw [el] at w3; exact w3.elim
                | some acc =>
                  rw [el] at w3
                  dsimp only at w3
                  by_cases c : acc.length < 100000
                  · rw [if_pos c] at w3
                    obtain ⟨us, h1, h2⟩ := S6.rep.lt (Rep.lst S6.rep el)
                    have l6 := (S4.trans (S5.trans S6)).le
                    have r6D : r6 m1.length = D := by
                      rw [← r3D]
                      exact (S4.trans (S5.trans S6)).ext _ lenk
                    have S7 := Step.put S6.rep (Rep.lst S6.rep el) (h2.append (.cons hz .nil))
                    rw [r6D] at h1 S7
                    exact ⟨us, h1, by rw [← h2.length]; exact line_lt (Nat.le_of_lt c), r6, _, (((S3.trans S4).trans S5).trans S6).trans S7, Wp.rebase (((S4.trans S5).trans S6).trans S7) w3⟩
                  · rw [if_neg c] at w3
                    exact w3.elim
              | exc e3 m6 => rw [ee] at w3; exact w3.elim
              | bad => rw [ee] at w3; exact w3.elim
          | exc e3 m5 => rw [et] at w3; exact w3.elim
          | bad => rw [et] at w3; exact w3.elim
        | exc e3 m4 => rw [eg] at w3; exact w3.elim
        | bad => rw [eg] at w3; exact w3.elim
theorem pts_imp {X : Cx} {e : List Expr} {t t' : TT} (h : PTs X e t) (k : ∀ s H Q, t' s H Q → t s H Q) : PTs X e t' := ⟨fun pins s σ H Q I q => h.run pins s σ H Q I (k σ H Q q)⟩
abbrev JTs (X : Cx) (hot : Option Hot) (x : WX) (es : List Expr) (d : DT) : Prop := PTs X es (tT X.K hot x d)
theorem jts_nil {X : Cx} {hot : Option Hot} {x : WX} : JTs X hot x [] dYes := pts_imp pts_nil fun s H Q ⟨r, m, env, R, E, w⟩ => w r H (Step.refl R)
theorem jts_one {X : Cx} {hot : Option Hot} {x : WX} {c : Expr} {t : DT} (h : JT X hot x c t) : JTs X hot x [c] t := pts_one h
theorem je_lc {X : Cx} {x : WX} {e : Expr} {d : DI} {tg : TG} {g : DG} {t : DT} {de : DE} {vs : List Nat} (h : PE X e (tLc (tI X.K none x d) tg (tT X.K none noX t) (tE X.K none noX de) vs)) (ht : TgOk X.K vs tg g) (hm : ∀ w env m env2 m2, g w env m = .ok env2 m2 → m2 = m) : JE X none x e (dLc d g t de vs) :=
  pe_imp h fun s H Q q => lc_of ht hm q
theorem js_lc {X : Cx} {x : WX} {st : Stmt} {d : DI} {tg : TG} {g : DG} {t : DT} {de : DE} {vs : List Nat} {i : Nat} (h : PS X st (tAsg (tLc (tI X.K none x d) tg (tT X.K none noX t) (tE X.K none noX de) vs) (gName i))) (ht : TgOk X.K vs tg g) (hm : ∀ w env m env2 m2, g w env m = .ok env2 m2 → m2 = m) :
    JS X none x st (sSet (dLc d g t de vs) (gNam i)) := ps_imp h fun D s H q => by
  obtain ⟨r, m, env, R, E, w⟩ := asg_of q
  exact lc_of ht hm ⟨r, m, env, R, E, w.imp fun u r1 m1 H1 S1 w1 v hv => gnam_of (w1 v hv)⟩
theorem nam_m {i : Nat} : ∀ w env m env2 m2, gNam i w env m = .ok env2 m2 → m2 = m := fun w env m env2 m2 h => by cases h; rfl
theorem pair_m {i j : Nat} : ∀ w env m env2 m2, gTp 2 (gCn (gNam i) (gCn (gNam j) gNl)) w env m = .ok env2 m2 → m2 = m := fun w env m env2 m2 h => by
  cases w with
  | tup l => cases l with
    | nil => cases h
    | cons a l => cases l with
      | nil => cases h
      | cons b l => cases l with
        | nil => cases h; rfl
        | cons c l =>
          have h : (if (a :: b :: c :: l).length = 2 then gCn (gNam i) (gCn (gNam j) gNl) (a :: b :: c :: l) env m else .bad) = .ok env2 m2 := h
          rw [if_neg (by simp)] at h
          cases h
  | _ => cases h
end Nw
set_option Elab.async false
set_option linter.all false
set_option maxRecDepth 100000
set_option maxHeartbeats 1000000
namespace Nw
open PySem PySem.Spec PyProof.Rows L2

/-! ### defs and their calls -/
def runD (n : Nat) (d : DS) : List W → Mem → Out W := fun ws m => match d (ws.map some ++ List.replicate (n - ws.length) none) m with
  | .fl (.rt w) m' => .ok w m'
  | .fl (.nx _) m' => .ok .non m'
  | .exc e _ m' => .exc e m'
  | _ => .bad
abbrev Den := List W → Mem → Out W
theorem er_start {K : PySem.W.Frag} {hot : Option Hot} {r : Nat → Addr} {n : Nat} {H : Hp} {ws : List W} {vs : List V} {N : List Str} (h : VRs K hot r n H ws vs) : ER K hot r n H (ws.map some ++ List.replicate (N.length - ws.length) none) (L2.start N vs) := by
  unfold L2.start
  refine ⟨?_, fun i w e => ?_⟩
  · rw [List.length_append, List.length_append, List.length_map, List.length_map, List.length_replicate, List.length_replicate, h.length]
  · by_cases hi : i < ws.length
    · rw [List.getElem?_append_left (by rw [List.length_map]; exact hi), List.getElem?_map] at e
      cases q : ws[i]? with
      | none => rw [q] at e; cases e
      | some u =>
        rw [q] at e
        have eu : u = w := Option.some.inj (Option.some.inj e)
        subst eu
        obtain ⟨v, h1, h2⟩ := h.get q
        refine ⟨v, ?_, h2⟩
        rw [List.getElem?_append_left (by rw [List.length_map, ← h.length]; exact hi), List.getElem?_map, h1]
        rfl
    · rw [List.getElem?_append_right (by rw [List.length_map]; omega), List.getElem?_replicate] at e
      by_cases c : i - (ws.map some).length < N.length - ws.length
      · rw [if_pos c] at e
        cases e
      · rw [if_neg c] at e
        cases e
/-! ### built-ins -/
section
variable {X : Cx} {hot : Option Hot} {x : WX} {e : Expr} {ds : DA} {f : OpN}
theorem je_cb (h : PE X e (tCB (rOfN X.K hot f) (tA X.K hot x ds))) : JE X hot x e (dCB f ds) := pe_imp h fun s H Q q => args_of q fun r m H' us vs R hus w => ⟨r, m, us, R, hus, Wo.of w⟩
end
theorem Rep.seqW {K : PySem.W.Frag} {hot : Option Hot} {r : Nat → Addr} {m : Mem} {H : Hp} (R : Rep K hot r m H) {w : W} {v : V} {l : List W} (h : seqOf m w = some l) (hv : VR K hot r m.length H w v) :
    ∃ p vs, v = .ref p ∧ (SqL K H p vs ∨ SqT K H p vs) ∧ VRs K hot r m.length H l vs := by
  cases hv with
  | tup hs hl =>
    cases h
    exact ⟨_, _, rfl, .inr hs, hl⟩
  | @ref k hk =>
    obtain ⟨_, vs, h1, h2⟩ := R.seq (show seqAt m k = some l from h)
    exact ⟨_, vs, rfl, .inl h1, h2⟩
  | _ => cases h
/-- one list or tuple -/
def one1 (g : List W → Mem → W × Mem) : OpN := fun ws m => match ws with
  | [w] => (seqOf m w).map fun l => g l m
  | _ => none
def strOf : List W → Option Str
  | [.str z] => some z
  | _ => none
theorem strOf_eq {ws : List W} {z : Str} (h : strOf ws = some z) : ws = [.str z] := by
  unfold strOf at h
  split at h
  · cases h
    rfl
  · cases h
def lenW : OpN := fun ws m => match strOf ws with
  | some z => if z.length ≤ 100000 then some (.int z.length, m) else none
  | none => one1 (fun l m => (.int l.length, m)) ws m
def tupleW : OpN := one1 fun l m => (.tup l, m)
def listW : OpN := one1 fun l m => (.ref m.length, m ++ [.lst l])
def max2W : OpN := fun ws m => match ws with
  | [.int i, .int j] => some (.int (if j > i then j else i), m)
  | _ => none
def min2W : OpN := fun ws m => match ws with
  | [.int i, .int j] => some (.int (if j < i then j else i), m)
  | _ => none
def intW : OpN := fun ws m => match ws with
  | [.int i] => some (.int i, m)
  | [.bl b] => some (.int (if b then 1 else 0), m)
  | _ => none
def bls : List W → Option (List Bool)
  | [] => some []
  | .bl i :: l => (bls l).map (i :: ·)
  | _ :: _ => none
def allW : OpN := fun ws m => match ws with
  | [.ref k] => (match (seqAt m k).bind bls with
    | some bs => some (.bl (bs.all id), m)
    | none => none)
  | _ => none
def sumW : OpN := fun ws m => match ws with
  | [.ref k] => (match (seqAt m k).bind intsW with
    | some ns => some (.int ns.sum, m)
    | none => none)
  | _ => none
/-- the greatest, the least of some ints, one at least -/
def most : List Int → Option Int
  | [] => none
  | n :: l => some (l.foldl (fun a b => if b > a then b else a) n)
def least : List Int → Option Int
  | [] => none
  | n :: l => some (l.foldl (fun a b => if b < a then b else a) n)
def maxW : OpN := fun ws m => match ws with
  | [.ref k] => (match (seqAt m k).bind intsW with
    | some ns => (most ns).map fun i => (.int i, m)
    | none => none)
  | _ => none
def minW : OpN := fun ws m => match ws with
  | [.ref k] => (match (seqAt m k).bind intsW with
    | some ns => (least ns).map fun i => (.int i, m)
    | none => none)
  | _ => none
def reprW1 : OpN := fun ws m => match ws with
  | [.int i] => if i.natAbs.log2 < 1920 then some (.str (toString i), m) else none
  | _ => none
def strW : OpN := fun ws m => match ws with
  | [.int i] => if i.natAbs.log2 < 1920 then some (.str (toString i), m) else none
  | _ => none
theorem bls_vals {K : PySem.W.Frag} {hot : Option Hot} {r : Nat → Addr} {n : Nat} {H : Hp} : ∀ {l : List W} {vs : List V} {ns : List Bool}, bls l = some ns → VRs K hot r n H l vs → vs = ns.map V.bl
  | [], _, ns, e, h => by
    cases h
    have e : some ([] : List Bool) = some ns := e
    cases e
    rfl
  | .bl i :: l, _, ns, e, h => by
    cases h with
    | cons h1 h2 =>
      cases h1
      obtain ⟨ms, e1, e2⟩ := Option.map_eq_some_iff.mp (show (bls l).map (i :: ·) = some ns from e)
      subst e2
      rw [bls_vals e1 h2]
      rfl
  | .non :: l, _, ns, e, h => by cases e
  | .int _ :: l, _, ns, e, h => by cases e
  | .str _ :: l, _, ns, e, h => by cases e
  | .tup _ :: l, _, ns, e, h => by cases e
  | .ref _ :: l, _, ns, e, h => by cases e
  | .fn _ :: l, _, ns, e, h => by cases e
  | .exv _ _ :: l, _, ns, e, h => by cases e
theorem fold_most : ∀ (l : List Int) (n : Int), (l.foldl (fun a b => if b > a then b else a) n ∈ n :: l) ∧ ∀ y ∈ n :: l, y ≤ l.foldl (fun a b => if b > a then b else a) n
  | [], n => ⟨List.mem_cons_self, fun y h => by rw [List.mem_singleton.mp h]; exact Int.le_refl _⟩
  | b :: l, n => by
    obtain ⟨h1, h2⟩ := fold_most l (if b > n then b else n)
    show (l.foldl (fun a b => if b > a then b else a) (if b > n then b else n) ∈ n :: b :: l) ∧ ∀ y ∈ n :: b :: l, y ≤ l.foldl (fun a b => if b > a then b else a) (if b > n then b else n)
    have h0 := h2 _ List.mem_cons_self
    constructor
    · rcases List.mem_cons.mp h1 with e | e
      · rw [e]
        by_cases c : b > n
        · rw [if_pos c]
          exact List.mem_cons_of_mem _ List.mem_cons_self
        · rw [if_neg c]
          exact List.mem_cons_self
      · exact List.mem_cons_of_mem _ (List.mem_cons_of_mem _ e)
    · intro y hy
      by_cases c : b > n
      · rw [if_pos c] at h0 h2 ⊢
        rcases List.mem_cons.mp hy with e | e
        · omega
        · exact h2 y e
      · rw [if_neg c] at h0 h2 ⊢
        rcases List.mem_cons.mp hy with e | e
        · omega
        · rcases List.mem_cons.mp e with e | e
          · omega
          · exact h2 y (List.mem_cons_of_mem _ e)
theorem fold_least : ∀ (l : List Int) (n : Int), (l.foldl (fun a b => if b < a then b else a) n ∈ n :: l) ∧ ∀ y ∈ n :: l, l.foldl (fun a b => if b < a then b else a) n ≤ y
  | [], n => ⟨List.mem_cons_self, fun y h => by rw [List.mem_singleton.mp h]; exact Int.le_refl _⟩
  | b :: l, n => by
    obtain ⟨h1, h2⟩ := fold_least l (if b < n then b else n)
    show (l.foldl (fun a b => if b < a then b else a) (if b < n then b else n) ∈ n :: b :: l) ∧ ∀ y ∈ n :: b :: l, l.foldl (fun a b => if b < a then b else a) (if b < n then b else n) ≤ y
    have h0 := h2 _ List.mem_cons_self
    constructor
    · rcases List.mem_cons.mp h1 with e | e
      · rw [e]
        by_cases c : b < n
        · rw [if_pos c]
          exact List.mem_cons_of_mem _ List.mem_cons_self
        · rw [if_neg c]
          exact List.mem_cons_self
      · exact List.mem_cons_of_mem _ (List.mem_cons_of_mem _ e)
    · intro y hy
      by_cases c : b < n
      · rw [if_pos c] at h0 h2 ⊢
        rcases List.mem_cons.mp hy with e | e
        · omega
        · exact h2 y e
      · rw [if_neg c] at h0 h2 ⊢
        rcases List.mem_cons.mp hy with e | e
        · omega
        · rcases List.mem_cons.mp e with e | e
          · omega
          · exact h2 y (List.mem_cons_of_mem _ e)
theorem most_is {ns : List Int} {i m : Int} (h : most ns = some i) (h1 : m ∈ ns) (h2 : ∀ y, y ∈ ns → y ≤ m) : m = i := by
  cases ns with
  | nil => cases h
  | cons n l =>
    obtain ⟨a, b⟩ := fold_most l n
    have e : l.foldl (fun a b => if b > a then b else a) n = i := Option.some.inj h
    rw [e] at a b
    have := h2 i a
    have := b m h1
    omega
theorem least_is {ns : List Int} {i m : Int} (h : least ns = some i) (h1 : m ∈ ns) (h2 : ∀ y, y ∈ ns → m ≤ y) : m = i := by
  cases ns with
  | nil => cases h
  | cons n l =>
    obtain ⟨a, b⟩ := fold_least l n
    have e : l.foldl (fun a b => if b < a then b else a) n = i := Option.some.inj h
    rw [e] at a b
    have := h2 i a
    have := b m h1
    omega
theorem most_pos {ns : List Int} {i : Int} (h : most ns = some i) : 0 < ns.length := by
  cases ns with
  | nil => cases h
  | cons n l => exact Nat.succ_pos _
theorem least_pos {ns : List Int} {i : Int} (h : least ns = some i) : 0 < ns.length := by
  cases ns with
  | nil => cases h
  | cons n l => exact Nat.succ_pos _
section
variable {X : Cx} {hot : Option Hot}
theorem one_seq {K : PySem.W.Frag} {r : Nat → Addr} {m : Mem} {H : Hp} {us : List W} {g : List W → Mem → W × Mem} {vs : List V} {Q : VK} (R : Rep K hot r m H) (hus : VRs K hot r m.length H us vs)
    (w : Wo K hot r m H (one1 g us m) Q) : ∃ l p xs, vs = [.ref p] ∧ (SqL K H p xs ∨ SqT K H p xs) ∧ VRs K hot r m.length H l xs ∧ Wo K hot r m H (some (g l m)) Q := by
  unfold one1 at w
  split at w
  · rename_i u
    cases q : seqOf m u with
    | none => rw [q] at w; exact w.elim
    | some l =>
      rw [q] at w
      cases hus with
      | cons h1 h2 =>
        cases h2
        obtain ⟨p, xs, rfl, hs, hl⟩ := R.seqW q h1
        exact ⟨l, p, xs, rfl, hs, hl, w⟩
  · exact w.elim
theorem cb_len : CallR X (.builtin "len") (rOfN X.K hot lenW) := by
  intro pins s σ H vs us Q I rv ⟨r, m, ws, R, hus, w⟩
  unfold lenW at w
  cases q : strOf ws with
  | some z =>
    rw [q] at w
    have e := strOf_eq q
    subst e
    dsimp only at w
    by_cases hz : z.length ≤ 100000
    · rw [if_pos hz] at w
      cases hus with
      | cons h1 h2 => cases h1; cases h2; exact call_len pins s σ H _ us Q I rv ⟨.str z, z.length, rfl, ⟨line_le hz, rfl⟩, w.val R (.int _)⟩
    · rw [if_neg hz] at w
      exact w.elim
  | none =>
    rw [q] at w
    obtain ⟨l, p, xs, rfl, hs, hl, w2⟩ := one_seq R hus w
    refine call_len_seq pins s σ H _ us Q I rv ⟨p, xs, rfl, hs, ?_⟩
    rw [← hl.length]
    exact w2.val R (.int _)
theorem cb_tuple : CallR X (.type "tuple") (rOfN X.K hot tupleW) := by
  intro pins s σ H vs us Q I rv ⟨r, m, ws, R, hus, w⟩
  obtain ⟨l, p, xs, rfl, hs, hl, w2⟩ := one_seq R hus w
  refine call_tuple_of pins s σ H _ us Q I rv ⟨p, xs, rfl, ?_⟩
  rcases hs with hs | hs
  · exact .inl ⟨hs, fun p hp => w2.tup R hl p hp⟩
  · exact .inr ⟨hs, w2.val R (.tup hs hl)⟩
theorem cb_list : CallR X (.type "list") (rOfN X.K hot listW) := by
  intro pins s σ H vs us Q I rv ⟨r, m, ws, R, hus, w⟩
  obtain ⟨l, p, xs, rfl, hs, hl, w2⟩ := one_seq R hus w
  exact call_list_of pins s σ H _ us Q I rv ⟨p, xs, rfl, hs, fun p hp => w2.lst R hl p hp⟩
theorem two_vals {K : PySem.W.Frag} {r : Nat → Addr} {n : Nat} {H : Hp} {ws : List W} {vs : List V} (h : VRs K hot r n H ws vs) {i j : Int} (e : ws = [.int i, .int j]) : vs = [.int i, .int j] := by
  subst e
  cases h with
  | cons h1 h2 => cases h2 with
    | cons h2 h3 => cases h1; cases h2; cases h3; rfl
theorem cb_max2 (hc : X.calm = true) : CallR X (.builtin "max") (rOfN X.K hot max2W) := by
  intro pins s σ H vs us Q I rv ⟨r, m, ws, R, hus, w⟩
  unfold max2W at w
  split at w
  · exact call_max2 hc pins s σ H _ us Q I rv ⟨_, _, two_vals hus rfl, w.val R (.int _)⟩
  · exact w.elim
theorem cb_min2 (hc : X.calm = true) : CallR X (.builtin "min") (rOfN X.K hot min2W) := by
  intro pins s σ H vs us Q I rv ⟨r, m, ws, R, hus, w⟩
  unfold min2W at w
  split at w
  · exact call_min2 hc pins s σ H _ us Q I rv ⟨_, _, two_vals hus rfl, w.val R (.int _)⟩
  · exact w.elim
theorem cb_int : CallR X (.type "int") (rOfN X.K hot intW) := by
  intro pins s σ H vs us Q I rv ⟨r, m, ws, R, hus, w⟩
  unfold intW at w
  split at w
  · cases hus with
    | cons h1 h2 => cases h1; cases h2; exact call_int1 pins s σ H _ us Q I rv (.inl ⟨_, rfl, w.val R (.int _)⟩)
  · cases hus with
    | cons h1 h2 => cases h1; cases h2; exact call_int1 pins s σ H _ us Q I rv (.inr ⟨_, rfl, w.val R (.int _)⟩)
  · exact w.elim
theorem cb_str : CallR X (.type "str") (rOfN X.K hot strW) := by
  intro pins s σ H vs us Q I rv ⟨r, m, ws, R, hus, w⟩
  unfold strW at w
  split at w
  · rename_i i
    by_cases c : i.natAbs.log2 < 1920
    · rw [if_pos c] at w
      cases hus with
      | cons h1 h2 => cases h1; cases h2; exact call_str_int pins s σ H _ us Q I rv ⟨i, rfl, c, w.val R (.str _)⟩
    · rw [if_neg c] at w
      exact w.elim
  · exact w.elim
/-- a list whose items are told by g -/
theorem lst_of {K : PySem.W.Frag} {r : Nat → Addr} {m : Mem} {H : Hp} {k : Nat} {α : Type} {g : List W → Option α} {a : α} (R : Rep K hot r m H) (h : (seqAt m k).bind g = some a) : ∃ l vs, SqL K H (r k) vs ∧ VRs K hot r m.length H l vs ∧ g l = some a := by
  cases q : seqAt m k with
  | none => rw [q] at h; cases h
  | some l =>
    rw [q] at h
    obtain ⟨_, vs, h1, h2⟩ := R.seq q
    exact ⟨l, vs, h1, h2, h⟩
theorem cb_all (hc : X.calm = true) : CallR X (.builtin "all") (rOfN X.K hot allW) := by
  intro pins s σ H vs us Q I rv ⟨r, m, ws, R, hus, w⟩
  unfold allW at w
  split at w
  · rename_i k
    cases q : (seqAt m k).bind bls with
    | none => rw [q] at w; exact w.elim
    | some bs =>
      rw [q] at w
      obtain ⟨l, xs, h1, h2, h3⟩ := lst_of R q
      have e := bls_vals h3 h2
      subst e
      cases hus with
      | cons a b => cases a; cases b; exact cr_all hc pins s σ H _ us Q I rv ⟨_, bs, rfl, h1, w.val R (.bl _)⟩
  · exact w.elim
theorem cb_sum (hc : X.calm = true) : CallR X (.builtin "sum") (rOfN X.K hot sumW) := by
  intro pins s σ H vs us Q I rv ⟨r, m, ws, R, hus, w⟩
  unfold sumW at w
  split at w
  · rename_i k
    cases q : (seqAt m k).bind intsW with
    | none => rw [q] at w; exact w.elim
    | some bs =>
      rw [q] at w
      obtain ⟨l, xs, h1, h2, h3⟩ := lst_of R q
      have e := intsW_vals h3 h2
      subst e
      cases hus with
      | cons a b => cases a; cases b; exact cr_sum hc pins s σ H _ us Q I rv ⟨_, bs, rfl, h1, w.val R (.int _)⟩
  · exact w.elim
theorem cb_max (hc : X.calm = true) : CallR X (.builtin "max") (rOfN X.K hot maxW) := by
  intro pins s σ H vs us Q I rv ⟨r, m, ws, R, hus, w⟩
  unfold maxW at w
  split at w
  · rename_i k
    cases q : (seqAt m k).bind intsW with
    | none => rw [q] at w; exact w.elim
    | some bs =>
      rw [q] at w
      obtain ⟨l, xs, h1, h2, h3⟩ := lst_of R q
      have e := intsW_vals h3 h2
      subst e
      dsimp only at w
      cases qm : most bs with
      | none => rw [qm] at w; exact w.elim
      | some i =>
        rw [qm] at w
        cases hus with
        | cons a b => cases a; cases b; exact cr_max hc pins s σ H _ us Q I rv ⟨_, bs, rfl, h1, most_pos qm, fun z z1 z2 => by rw [most_is qm z1 z2]; exact w.val R (.int _)⟩
  · exact w.elim
theorem cb_min (hc : X.calm = true) : CallR X (.builtin "min") (rOfN X.K hot minW) := by
  intro pins s σ H vs us Q I rv ⟨r, m, ws, R, hus, w⟩
  unfold minW at w
  split at w
  · rename_i k
    cases q : (seqAt m k).bind intsW with
    | none => rw [q] at w; exact w.elim
    | some bs =>
      rw [q] at w
      obtain ⟨l, xs, h1, h2, h3⟩ := lst_of R q
      have e := intsW_vals h3 h2
      subst e
      dsimp only at w
      cases qm : least bs with
      | none => rw [qm] at w; exact w.elim
      | some i =>
        rw [qm] at w
        cases hus with
        | cons a b => cases a; cases b; exact cr_min hc pins s σ H _ us Q I rv ⟨_, bs, rfl, h1, least_pos qm, fun z z1 z2 => by rw [least_is qm z1 z2]; exact w.val R (.int _)⟩
  · exact w.elim
end
end Nw
set_option Elab.async false
set_option linter.all false
set_option maxRecDepth 100000
set_option maxHeartbeats 1000000
namespace Nw
open PySem PySem.Spec PyProof.Rows L2

/-! ### room -/
structure RoomN (hot : Option Hot) (k : Nat) (A : Around) : Prop where
  dp : A.depth + 3 * k + 5 < recursionLimit
  un : A.units + 16 * k + 200 < cLine
  gd : A.guards = some []
  hd : hot = none → A.handled = none
theorem RoomN.mono {hot : Option Hot} {j k : Nat} {A : Around} (r : RoomN hot k A) (h : j ≤ k) : RoomN hot j A := ⟨by have := r.dp; omega, by have := r.un; omega, r.gd, r.hd⟩
theorem RoomN.deeper {hot : Option Hot} {k : Nat} {A : Around} (r : RoomN hot (k + 1) A) (env : PySem.Env) : RoomN hot k (A.deeper env) :=
  ⟨by have := r.dp; show A.depth + 1 + 3 * k + 5 < _; omega, by have := r.un; show A.units + 3 + 16 * k + 200 < _; omega, r.gd, r.hd⟩
theorem RoomN.depth {hot : Option Hot} {k : Nat} {A : Around} (r : RoomN hot k A) : A.depth < recursionLimit := by have := r.dp; omega
theorem RoomN.room {k : Nat} {A : Around} (r : RoomN none k A) : Room k A := ⟨r.hd rfl, r.dp, r.un⟩
theorem RoomN.suite {h : Hot} {k : Nat} {A : Around} (r : RoomN none k A) (v : Value) : RoomN (some h) k (A.mark (some v)) := ⟨r.dp, r.un, r.gd, fun z => nomatch z⟩
theorem RoomN.hu {hot : Option Hot} {k : Nat} {A : Around} (r : RoomN hot k A) : A.units + 200 < cLine := by have := r.un; omega

/-! ### the exception that is handled stands pinned -/
def HotIn (X : Cx) (hot : Option Hot) : Prop := ∀ h, hot = some h → ∃ oe, (h.a, oe) ∈ X.pn ∧ Zc h.cls h.d oe ∧ ∃ vs, oe.data = .fields vs
def PinH (hot : Option Hot) (outer : List PySem.Env) (H : Hp) (s : Shared) (pn : List (Addr × Obj)) : Prop := match hot with
  | none => pn = []
  | some h => ∃ oe, pn = [(h.a, oe)] ∧ L2H.PinOk outer H s (h.a, oe) ∧ Zc h.cls h.d oe ∧ ∃ vs, oe.data = .fields vs
theorem HotIn.none {X : Cx} : HotIn X none := fun _ z => nomatch z
theorem HotIn.pins {X : Cx} {hot : Option Hot} {pins : List (Addr × Obj)} {σ : L2.St} {H : Hp} {s : Shared} (c : HotIn X hot) (I : Inv X pins σ H s) : ∃ pn, PinH hot X.stack H s pn := by
  cases hot with
  | none => exact ⟨[], rfl⟩
  | some h =>
    obtain ⟨oe, hm, hz, hf⟩ := c h rfl
    obtain ⟨p1, p2, p3, p4, p5⟩ := I.pin (h.a, oe) (List.mem_append_left _ hm)
    exact ⟨_, oe, rfl, ⟨p1, p2, fun hm => (List.mem_cons.mp (I.stkSub h.a hm)).elim p3 p4, p5⟩, hz, hf⟩

/-! ### a def's promise -/
/-- the def at the global x keeps what den says; hk: within an except suite too -/
structure OkF (P : Program) (w : World) (K : PySem.W.Frag) (mg : Str → Option Value) (base : Heap) (hk : Bool) (k : Nat) (x : Str) (fd : FuncData) (ps : List Str) (den : Den) : Prop where
  run : ∀ (hot : Option Hot) (pn : List (Addr × Obj)) (A : Around) (outer : List PySem.Env) (s : Shared) (H : Hp) (args : Args) (us : List Value) (vs : List V) (ws : List W) (r : Nat → Addr) (m : Mem) (Q : VK) (E : XK),
    (hk = false → hot = none) → RoomN hot k A → PinH hot outer H s pn → Env0 P w K mg base A outer s H → BindsTo s fd args (ps.zip us) → Vals vs us → Rep K hot r m H → VRs K hot r m.length H ws vs → ws.length = ps.length →
    Wp K hot (fun cls d _ H => E cls d H) [] r m H (den ws m) (fun w r' m' H' => ∀ v, VR K hot r' m'.length H' w v → Q v H') →
    codeAny (model P w) A (.call (.ref (He.ga K x)) args) (CR (L2.CX P w) outer P w H s Q E) s
/-- the context of a def's body -/
def cxN (hot : Option Hot) (pn : List (Addr × Obj)) (P : Program) (w : World) (K : PySem.W.Frag) (mg : Str → Option Value) (base : Heap) (N : List Str) (qual : Str) (scope : Scope) (f : Addr) (cd : Value) (A : Around) (outer : List PySem.Env) (s : Shared) (H : Hp) (E : XK) : Cx :=
  { cxOf (L2.CX P w) P w K mg base N qual scope f cd A outer s H E with calm := hot.isNone, pn := pn }
theorem inv_startN {hot : Option Hot} {pn : List (Addr × Obj)} {P : Program} {w : World} {K : PySem.W.Frag} {mg : Str → Option Value} {base : Heap} {N ps : List Str} {qual : Str} {scope : Scope} {f : Addr} {cd : Value} {A : Around} {outer : List PySem.Env} {s s1 : Shared} {H : Hp} {E : XK} {us : List Value} {vs : List V}
    (S : FnScope N ps scope) (hd : hot = none → A.handled = none) (hpin : PinH hot outer H s pn) (e0 : Env0 P w K mg base A outer s H) (hl : vs.length = ps.length) (r : Vals vs us)
    (x : InCallC s s.heap.objs.size (bindL (envOfC qual scope s.heap.objs.size f cd).kindOf (ps.zip us) fun _ => none) (cellsFrom (s.heap.objs.size + 1) scope.names []) (bindC (envOfC qual scope s.heap.objs.size f cd).kindOf (ps.zip us) fun _ => none) s1) :
    Inv (cxN hot pn P w K mg base N qual scope f cd A outer s H E) [] (L2.start N vs) H s1 := by
  cases hot with
  | none =>
    cases (show pn = [] from hpin)
    exact inv_start (E := E) S (hd rfl) e0 hl r x
  | some h =>
    obtain ⟨oe, e, hp, _⟩ := hpin
    subst e
    exact L2H.inv_startH (E := E) S hp e0 hl r x
theorem PinH.hot {hot : Option Hot} {outer : List PySem.Env} {H : Hp} {s : Shared} {pn : List (Addr × Obj)} (h : PinH hot outer H s pn) {X : Cx} (e : X.pn = pn) : HotIn X hot := fun z q => by
  subst q
  obtain ⟨oe, ep, _, h1, h2⟩ := h
  exact ⟨oe, by rw [e, ep]; exact List.mem_cons_self, h1, h2⟩
/-- a def's promise from its body -/
theorem okF_of {P : Program} {w : World} {K : PySem.W.Frag} {mg : Str → Option Value} {base : Heap} {hk : Bool} {k : Nat} {x qual : Str} {params : Arguments} {body : List Stmt} {scope : Scope} {fd : FuncData} {N ps : List Str} {d : DS}
    (F : FunD K x qual params body scope [] [] (He.ga K x) fd) (S : FnScope N ps scope)
    (h : ∀ (hot : Option Hot) (pn : List (Addr × Obj)) (cdv : Value) (A : Around) (outer : List PySem.Env) (s : Shared) (H : Hp) (E : XK), (hk = false → hot = none) → RoomN hot k (A.deeper (envOfC qual scope s.heap.objs.size (He.ga K x) cdv)) →
      HotIn (cxN hot pn P w K mg base N qual scope (He.ga K x) cdv A outer s H E) hot →
      JB (cxN hot pn P w K mg base N qual scope (He.ga K x) cdv A outer s H E) hot (fun cls d _ H => E cls d H) body d) : OkF P w K mg base hk (k + 1) x fd ps (runD N.length d) := by
  obtain ⟨oc, od, dV, kV, doc, pm, an, cdv, ct, osl, rfl, lk, hcd, _, _⟩ := F.ex
  refine ⟨fun hot pn A outer s H args us vs ws r m Q E hh hr hpin e0 hb rv R hv hl q => ?_⟩
  have hl2 : vs.length = ps.length := by rw [← hv.length]; exact hl
  have KX : K.In s.heap := e0.mod.kin.keeps fun b o e => (e0.bs b o e).1
  have lim : s.heap.NoLimit := e0.mod.nolimit.keeps fun b o e => (e0.bs b o e).1
  have hkind : ∀ y ∈ ps.zip us, scope.names.lookup y.1 = some .local ∨ (scope.names.lookup y.1 = some .cell ∧ ((cellsFrom (s.heap.objs.size + 1) scope.names []).lookup y.1).isSome = true) := fun ⟨n, v⟩ hy => by
    rcases S.par n (List.of_mem_zip hy).1 with q | q
    · exact .inl q
    · exact .inr ⟨q, PySem.W.cellsFrom_some _ _ _ (.inl q)⟩
  refine codeAny_call_function hr.depth (KX _ _ lk) rfl S.co S.gen rfl (PySem.W.codeRec_of KX hcd) (hb _ _ _ _ ?_)
  refine wpAny_newFunctionEnv_cells S.kind hkind fun env he s1 z => ?_
  subst he
  refine ⟨lim.keeps z.toInCall.keep, codeAny_func ?_⟩
  have ht := h hot pn cdv A outer s H E hh (hr.deeper _) (hpin.hot rfl)
  have I : Inv (cxN hot pn P w K mg base N qual scope (He.ga K x) cdv A outer s H E) [] (L2.start N vs) H s1 := inv_startN S hr.hd hpin e0 hl2 rv z
  have hq : (tS K hot (fun cls d _ H => E cls d H) d) { nx := fun _ H' => Q .non H', rt := Q } (L2.start N vs) H := by
    refine ⟨r, m, _, R, er_start (N := N) hv, ?_⟩
    unfold runD at q
    cases e : d (ws.map some ++ List.replicate (N.length - ws.length) none) m with
    | bad => rw [e] at q; exact q.elim
    | exc e' env m' =>
      rw [e] at q
      exact fun r' H' cls dd s' S E he => q r' H' cls dd S he
    | fl f m' => cases f with
      | rt u =>
        rw [e] at q
        exact fun r' H' v S hv => q r' H' S v hv
      | nx env =>
        rw [e] at q
        exact fun r' H' s' S _ => q r' H' S .non .non
      | bk env => rw [e] at q; exact q.elim
      | ct env => rw [e] at q; exact q.elim
  refine wpAny_mono (ht.run [] s1 (L2.start N vs) H _ I hq) (fun fl s' hs => ?_) fun e s' hs => hs
  have fin : ∀ {σ' : L2.St} {H' : Hp} {v : V} {u : Value}, Inv (cxN hot pn P w K mg base N qual scope (He.ga K x) cdv A outer s H E) [] σ' H' s' → RelV v u → Q v H' → CE outer P w H s Q u s' :=
    fun {σ' H' v u} J rv q => ⟨v, H', J.os, J.bare, J.base, J.hok, rv, q⟩
  cases fl with
  | ret u =>
    obtain ⟨v, σ', H', J, rv, q⟩ := hs
    exact fin J rv q
  | next =>
    obtain ⟨σ', H', J, q⟩ := hs
    exact fin (v := V.non) (u := Value.none) J rfl q
  | brk =>
    obtain ⟨_, _, _, q⟩ := hs
    exact False.elim q
  | cont =>
    obtain ⟨_, _, _, q⟩ := hs
    exact False.elim q

/-! ### calls -/
/-- what is known of the def at the global x -/
structure Df (P : Program) (w : World) (K : PySem.W.Frag) (mg : Str → Option Value) (base : Heap) (hk : Bool) (k : Nat) (x : Str) (n : Nat) (den : Den) : Prop where
  ex : ∃ (fd : FuncData) (ps : List Str), ps.length = n ∧ OkF P w K mg base hk k x fd ps den ∧ Binds K fd ps []
  gl : mg x = some (.ref (He.ga K x))
  kp : PySem.W.keepIn K (.ref (He.ga K x)) = true
theorem Df.imp {P : Program} {w : World} {K : PySem.W.Frag} {mg : Str → Option Value} {base : Heap} {hk : Bool} {k : Nat} {x : Str} {n : Nat} {den den' : Den} (D : Df P w K mg base hk k x n den) (h : ∀ ws m, den' ws m ≠ .bad → den ws m = den' ws m) : Df P w K mg base hk k x n den' := by
  obtain ⟨fd, ps, hl, F, hb⟩ := D.ex
  refine ⟨⟨fd, ps, hl, ⟨fun hot pn A outer s H args us vs ws r m Q E h1 h2 h3 h4 h5 h6 h7 h8 h9 q => F.run hot pn A outer s H args us vs ws r m Q E h1 h2 h3 h4 h5 h6 h7 h8 h9 ?_⟩, hb⟩, D.gl, D.kp⟩
  have e : den ws m = den' ws m := h ws m fun z => by
    rw [z] at q
    exact q.elim
  rw [e]
  exact q
def dCall (n : Nat) (f : Den) (a : DA) : DE := fun env m => (a env m).bind fun ws m1 => if ws.length = n then f ws m1 else .bad
theorem wp_of {K : PySem.W.Frag} {hot : Option Hot} {x : WX} {s : L2.St} {r : Nat → Addr} {m : Mem} {H : Hp} {o : Out W} {R : W → (Nat → Addr) → Mem → Hp → Prop} (h : Wp K hot x s r m H o R) : Wp K hot (fun cls d _ H => WE x s cls d H) [] r m H o R := by
  cases o with
  | ok a m' => exact h
  | exc e m' => exact h
  | bad => exact h
theorem run_fnN {X : Cx} {hk : Bool} {k : Nat} {x : Str} {n : Nat} {den : Den} {hot : Option Hot} {W0 : WX} {pins : List (Addr × Obj)} {σ : L2.St} {H : Hp} {s : Shared} {Q : VK} {us : List Value} {vs : List V} {ws : List W} {r : Nat → Addr} {m : Mem}
    (D : Df X.prog X.w X.K X.mg X.base hk k x n den) (hh : hk = false → hot = none) (hr : RoomN hot k X.A) (hp : HotIn X hot) (tk : Takes X W0) (I : Inv X pins σ H s) (rv : Vals vs us) (R : Rep X.K hot r m H) (hv : VRs X.K hot r m.length H ws vs) (hl : ws.length = n)
    (q : Wp X.K hot W0 σ r m H (den ws m) (fun w r' m' H' => ∀ v, VR X.K hot r' m'.length H' w v → Q v H')) : wpAny (model X.prog X.w) X.A (call (.ref (He.ga X.K x)) us) (EP X pins σ Q) X.xe s := by
  obtain ⟨fd, ps, hps, F, hb⟩ := D.ex
  obtain ⟨pn, hpin⟩ := hp.pins I
  have hlu : us.length = ps.length := by rw [← rv.length, ← hv.length, hl, hps]
  have b := hb s us I.kIn (by rw [List.append_nil]; exact hlu)
  rw [List.append_nil] at b
  refine wpAny_call (codeAny_mono (F.run hot pn X.A X.stack s H ⟨us, []⟩ us vs ws r m Q (WE W0 σ) hh hr hpin I.env0 b rv R hv (hl.trans hps.symm) (wp_of q)) fun r s' hq => ?_)
  cases r with
  | error e => exact passAt tk σ pins H s e s' I hq
  | ok fl =>
    cases fl with
    | ret u => exact I.after hq
    | next => exact False.elim hq
    | brk => exact False.elim hq
    | cont => exact False.elim hq
section
variable {X : Cx} {hk : Bool} {k : Nat} {x : Str} {n : Nat} {den : Den} {hot : Option Hot} {W0 : WX} {e : Expr} {es : List Expr} {ds : DA} {p pos : Pos}
theorem je_call (D : Df X.prog X.w X.K X.mg X.base hk k x n den) (hh : hk = false → hot = none) (hr : RoomN hot k X.A) (hp : HotIn X hot) (tk : Takes X W0) (hg : Gl X x) (ha : JA X hot W0 (e :: es) ds)
    (hdb : (x == ("__debug__" : Str)) = false := by decide) (he : starEach (e :: es) X.env = (false, eval e X.env) :: starEach es X.env := by rfl) (hpl : (backTo pos (starEach es X.env)).any (·.1) = false := by rfl) :
    JE X hot W0 (.Call (.Name x p) (e :: es) [] pos) (dCall n den ds) := by
  refine ⟨fun pins s σ H Q I h => ?_⟩
  obtain ⟨r, m, env, R, E, w⟩ := h
  refine wpAny_Call_Name_kw (ld_glob I hg D.gl ?_ hdb)
  refine PySem.W.callWith_K (h₀ := X.base) I.ok.mod.kin D.kp (thn (ha.run pos pins s σ H _ I ⟨r, m, env, R, E, (Wp.bind w).imp fun us r1 m1 H1 S1 w1 vs hv => show ∃ r m ws, Rep X.K hot r m H1 ∧ VRs X.K hot r m.length H1 ws vs ∧ ws.length = n ∧ Wp X.K hot W0 σ r m H1 (den ws m) (fun w r' m' H' => ∀ v, VR X.K hot r' m'.length H' w v → Q v H') from ?_⟩)
    fun us s1 ⟨vs, H1, I1, r1, r2, m2, ws, R2, hv2, hl, q⟩ => ⟨I1.kIn, ?_⟩) he hpl
  · by_cases c : us.length = n
    · rw [if_pos c] at w1
      exact ⟨r1, m1, us, S1.rep, hv, c, w1⟩
    · rw [if_neg c] at w1
      exact w1.elim
  · exact run_fnN D hh hr hp tk I1 r1 R2 hv2 hl q
def dCall0 (f : Den) : DE := fun _ m => f [] m
theorem je_call0 (D : Df X.prog X.w X.K X.mg X.base hk k x 0 den) (hh : hk = false → hot = none) (hr : RoomN hot k X.A) (hp : HotIn X hot) (tk : Takes X W0) (hg : Gl X x) (hdb : (x == ("__debug__" : Str)) = false := by decide) :
    JE X hot W0 (.Call (.Name x p) [] [] pos) (dCall0 den) := by
  refine ⟨fun pins s σ H Q I h => ?_⟩
  obtain ⟨r, m, env, R, E, w⟩ := h
  refine wpAny_Call_Name_kw (ld_glob I hg D.gl ?_ hdb)
  exact PySem.W.callWith_K0 I.kIn D.kp (run_fnN (us := []) D hh hr hp tk I .nil R .nil rfl w)
end

/-! ### the law's end -/
section
variable {P : Program} {w : World} {K : PySem.W.Frag} {mg mb : Str → Option Value} {k : Nat} {a : Addr} {x y : Str} {fd : FuncData} {den : Den} {s₁ : Shared} {vs : List Value} {ns : List Int} {hk : Bool}
/-- the script: the store's thing 0 -/
theorem rep_script {H : Hp} (h : FzL K H a (ns.map V.int)) : Rep K none (fun _ => a) [.fro (ns.map W.int)] H := by
  have isv : ∀ (l : List Int) {n : Nat}, VRs K none (fun _ => a) n H (l.map W.int) (l.map V.int) := fun l => by
    induction l with
    | nil => exact fun {_} => .nil
    | cons i l ih => exact fun {_} => .cons (.int i) ih
  refine ⟨fun k o e => ?_, fun i j o u hi hj ho _ _ => ?_, fun _ z => nomatch z⟩
  · cases k with
    | zero =>
      cases e
      exact ⟨_, h, isv ns⟩
    | succ k => cases e
  · cases i with
    | zero =>
      cases hi
      cases ho
    | succ i => cases hi
/-- a heap that tracks the script alone, if anything -/
structure OnlyAt (K : PySem.W.Frag) (H : Hp) (a : Addr) (ob : Obj) (ns : List Int) : Prop where
  no : ∀ b, H b = none ∨ (b = a ∧ K.lookup a = none ∧ H b = some (.frz ob (.lst (ns.map V.int))))
theorem law_at {H : Hp} (hO : OnlyAt K H a { cls := .type "list", data := .seq vs.toArray } ns) (hF : FzL K H a (ns.map V.int)) (hok : HOk P w H s₁.heap) (KX : K.In s₁.heap) (hns : s₁.heap.Ns mainGlobals mg) (hb : s₁.heap.Ns builtinsNs mb) (hbb : ∀ x : Str, x ≠ "__name__" → mb x = bootBuiltins x)
    (hlim : s₁.heap.NoLimit) (hg : s₁.gens = #[]) (ha : s₁.heap.get? a = some { cls := .type "list", data := .seq vs.toArray }) (hr : RoomN none k callerA)
    (F : ∀ base : Heap, K.In base → base.Ns mainGlobals mg → OkF P w K mg base hk k x fd [y] den) (hbind : ∀ (s : Shared) (u : Value), BindsTo s fd ⟨[u], []⟩ [(y, u)]) (hsp : ∃ m', den [.ref 0] [.fro (ns.map W.int)] = .ok (.bl true) m') :
    codeAny (model P w) callerA (.call (.ref (He.ga K x)) ⟨[.ref a], []⟩) (fun r s' => r = .ok (.ret (.bool true)) ∧ OldK s₁.heap s'.heap ∧ s'.os = s₁.os ∧ AllBare s'.gens) s₁ := by
  have get : ∀ {b : Addr} {o : Obj}, s₁.heap.get? b = some o → H b = none → (hidT s₁.heap H).get? b = some o := fun e n => hidT_get e n
  have dct : ∀ {b : Addr} {m : Str → Option Value}, s₁.heap.Ns b m → (hidT s₁.heap H).Ns b m := fun {b m} h => by
    obtain ⟨o, es, ep, e, d, rest⟩ := h
    refine ⟨o, es, ep, get e ?_, d, rest⟩
    rcases hO.no b with q | ⟨q, _, _⟩
    · exact q
    · rw [q, ha] at e
      cases e
      exact Data.noConfusion (show Data.seq vs.toArray _ = Data.dict es ep from d)
  have KI : K.In (hidT s₁.heap H) := fun b o e => by
    refine get (KX b o e) ?_
    rcases hO.no b with q | ⟨q, n, _⟩
    · exact q
    · rw [q, n] at e
      cases e
  have M : Mod K mg (hidT s₁.heap H) := by
    obtain ⟨mc, h1, h2⟩ := hlim
    exact ⟨KI, dct hns, ⟨mb, dct hb, hbb⟩, mc, dct h1, h2⟩
  have e0 : Env0 P w K mg (hidT s₁.heap H) callerA [] s₁ H := ⟨rfl, M, fun b o e => of_hidT e, Nat.le_of_eq (hidT_size _ _), trivial, fun b hb => absurd (show b ∈ ([] : List Addr) from hb) (by simp), hok, .of_eq hg⟩
  obtain ⟨m', hden⟩ := hsp
  refine codeAny_mono ((F _ KI (dct hns)).run none [] callerA [] s₁ H ⟨[.ref a], []⟩ [.ref a] [.ref a] [.ref 0] (fun _ => a) [.fro (ns.map W.int)] (fun v _ => v = .bl true) (fun _ _ _ => False) (fun _ => rfl) hr rfl e0 (hbind s₁ (.ref a)) (.cons rfl .nil) (rep_script hF) (.cons (.ref (Nat.zero_lt_one)) .nil) rfl ?_) fun r s' h => ?_
  · rw [hden]
    intro r' H' S v hv
    cases hv
    rfl
  · cases r with
    | error e =>
      obtain ⟨_, _, _, _, _, _, _, _, _, _, _, _, q⟩ := h
      exact q.elim
    | ok fl =>
      cases fl with
      | ret u =>
        obtain ⟨v, H', os, bare, un, hok', r', q⟩ := h
        cases (show v = .bl true from q)
        cases (show u = Value.bool true from r')
        refine ⟨rfl, OldK.of_keep fun b o e => ?_, os, bare⟩
        rcases hO.no b with q | ⟨_, _, q⟩
        · exact un.keep b o e q (fun z => absurd (show b ∈ ([] : List Addr) from z) (by simp)) (by simp)
        · have e1 := (hok b _ q).1
          rw [e] at e1
          rw [Option.some.inj e1]
          exact (hok' b _ (un.frzs b _ _ q)).1
      | next => exact h.elim
      | brk => exact h.elim
      | cont => exact h.elim
theorem law_callN (KX : K.In s₁.heap) (hns : s₁.heap.Ns mainGlobals mg) (hb : s₁.heap.Ns builtinsNs mb) (hbb : ∀ x : Str, x ≠ "__name__" → mb x = bootBuiltins x) (hlim : s₁.heap.NoLimit) (hg : s₁.gens = #[])
    (ha : s₁.heap.get? a = some { cls := .type "list", data := .seq vs.toArray }) (hi : IntsAre vs ns) (hl : ns.length ≤ sizeLine) (hr : RoomN none k callerA)
    (F : ∀ base : Heap, K.In base → base.Ns mainGlobals mg → OkF P w K mg base hk k x fd [y] den) (hbind : ∀ (s : Shared) (u : Value), BindsTo s fd ⟨[u], []⟩ [(y, u)]) (hsp : ∃ m', den [.ref 0] [.fro (ns.map W.int)] = .ok (.bl true) m') :
    codeAny (model P w) callerA (.call (.ref (He.ga K x)) ⟨[.ref a], []⟩) (fun r s' => r = .ok (.ret (.bool true)) ∧ OldK s₁.heap s'.heap ∧ s'.os = s₁.os ∧ AllBare s'.gens) s₁ := by
  have rv := vals_ints hi
  cases hk : K.lookup a with
  | some o =>
    have e := KX a o hk
    rw [ha] at e
    cases e
    have q : SqL K (fun _ => none) a (ns.map V.int) := .inr ⟨_, vs.toArray, _, hk, rfl, rfl, rfl, by rw [List.size_toArray, hi.length]; exact hl, by simpa using rv⟩
    exact law_at (H := fun _ => none) ⟨fun _ => .inl rfl⟩ (.inr q) (fun b u z => nomatch (show (none : Option HO) = some u from z)) KX hns hb hbb hlim hg ha hr F hbind hsp
  | none =>
    refine law_at (H := upd (fun _ => none) a (.frz { cls := .type "list", data := .seq vs.toArray } (.lst (ns.map V.int)))) ⟨fun b => ?_⟩ (.inl ⟨_, upd_same⟩) (fun b u z => ?_) KX hns hb hbb hlim hg ha hr F hbind hsp
    · by_cases h : b = a
      · subst h
        exact .inr ⟨rfl, hk, upd_same⟩
      · exact .inl (upd_ne h)
    · by_cases h : b = a
      · subst h
        rw [upd_same] at z
        cases z
        exact ⟨ha, by rw [List.length_map]; exact hl, vs, _, rv, ha⟩
      · rw [upd_ne h] at z
        cases z
end
/-- a law's end: F gives the written part and the law's promise, plain tells what its den gives -/
theorem walk_nw {l : PySem.W.OpenLaw} {n k : Nat} {q : Program} {loose : List Str} {XP : (Str → Option Value) → Heap → Prop} {YP : World → Heap → Prop} {d : DefRec} {x y : Str} {den : Den}
    (hn : l.most = some n) (hn2 : n ≤ sizeLine) (hdf : d.params.defaults = []) (hx : d.name = x) (hr : RoomN none k callerA)
    (F : ∀ (w : World) (mg : Str → Option Value) (h : Heap), YP w h → h.Ns mainGlobals mg →
      ∃ (K : PySem.W.Frag) (fd : FuncData) (hk : Bool), K.In h ∧ mg x = some (.ref (He.ga K x)) ∧ (∀ (s : Shared) (u : Value), BindsTo s fd ⟨[u], []⟩ [(y, u)]) ∧
        ∀ base : Heap, K.In base → base.Ns mainGlobals mg → OkF l.prog w K mg base hk k x fd [y] den)
    (plain : ∀ ns : List Int, ns.length ≤ n → ∃ m', den [.ref 0] [.fro (ns.map W.int)] = .ok (.bl true) m') :
    PySem.W.WalkO q loose XP YP l.row.toRowW d [] (fun f vs => PySem.call f vs) := by
  refine Att.attach_call hn hdf fun w s₀ s₁ mg mb fa o pm cd doc a vs ns G Y ho hd hcd hmg hobj hints hlen hg => ?_
  obtain ⟨K, fd, hk, KX, hgx, hb, hF⟩ := F w mg _ Y G.T.g
  rw [hx, hgx] at hmg
  cases hmg
  exact law_callN KX G.T.g G.T.b G.T.builtins G.T.nolimit hg hobj hints (Nat.le_trans hlen hn2) hr hF hb (plain ns hlen)
end Nw
set_option Elab.async false
set_option linter.all false
set_option maxRecDepth 100000
set_option maxHeartbeats 2000000
namespace PySem.W
open PySem PySem.Spec PySem.Calls PyProof.Rows
section
variable {prog : Program} {w : World} {A : Around} {E : Value → Shared → Prop} {s : Shared} {K : Frag} {x D : Addr} {ox : Obj} {od : Option Obj}
/-- __class__ of an exception of an own class, with or without a dict of its own -/
theorem nw_classE {Q : Option Value → Shared → Prop} (C : L2.ExcC K D) (X : K.In s.heap) (I : InstAt s.heap x ox D od) (h : Q (some (.ref D)) { s with toks := s.toks + 1 }) : wpAny (model prog w) A (getAttr? (.ref x) "__class__") Q E s := by
  have hf : findObj K D od "__class__" = some (.bind (.builtin "getset_descriptor.__get__") (.builtin "object.__class__")) := by
    obtain ⟨cd, hc, _⟩ := any_some C.hd
    unfold findObj
    rw [hc, Option.bind_some, C.ha, Option.bind_some]
    simp [C.hn, C.ht]
  obtain ⟨hp, g, d, t, os⟩ := s
  have T := I.type (M := model prog w)
  have G := looks_findIn (M := model prog w) X C.hg
  have N := looks_findIn (M := model prog w) X C.hk
  have F := looks_find (M := model prog w) X I hf
  have sub : Looks (model prog w) hp (isInstance (.ref x) (.type "BaseException")) true := T.andThen (looks_subIn X C.hs)
  have z : (onTheHeap (Value.ref D) && Value.builtin "BaseException.__getattribute__" == Value.builtin "object.__getattribute__") = false := by
    rw [show (Value.builtin "BaseException.__getattribute__" == Value.builtin "object.__getattribute__") = false by decide +kernel]
    rfl
  unfold getAttr? getAttrBy? getAttrBy
  refine wpAny_bind (wpAny_mkText (wpAny_bind (wpAny_attempt (wpAny_holding (wpAny_bind (T.at (wpAny_bind (G.at ?_))))))))
  show wpAny _ _ (if (onTheHeap (Value.ref D) && Value.builtin "BaseException.__getattribute__" == Value.builtin "object.__getattribute__") = true then _ else _) _ _ _
  rw [z, if_neg Bool.false_ne_true]
  unfold getAttrByItsOwn hookBefore
  refine wpAny_bind ?_
  rw [if_pos (show onTheHeap (Value.ref D) = true from rfl)]
  refine N.at (wpAny_bind (wpAny_attempt (wpAny_holding ?_)))
  unfold callGetattribute
  rw [show (false && onTheHeap (Value.builtin "BaseException.__getattribute__")) = false from rfl, if_neg Bool.false_ne_true]
  unfold boundAndCalled
  rw [PySem.F.excAttr_ValueError.ga.bind (.ref x)]
  refine wpAny_bind (wpAny_pure ?_)
  show wpAny _ _ (call (.builtin "BaseException.__getattribute__") [.ref x, .str "__class__" t]) _ _ _
  refine wpAny_call (codeAny_call_builtin PySem.F.excAttr_ValueError.ga.plain PySem.F.entry_bexc_ga ?_)
  refine @check_slot (model prog w) _ _ ⟨hp, g, d, t + 1, os⟩ "BaseException.__getattribute__" "BaseException" "__getattribute__" (.ref x) [.str "__class__" t] [] _ (by decide +kernel) (by decide +kernel) sub (PySem.F.args_bexc_ga (.ref x) (.str "__class__" t)) ?_
  unfold Builtin.«object.__getattribute__»
  refine wpAny_bind (wpAny_of_eq (a := ((Value.ref x : Value), [Value.str "__class__" t])) (by first | rfl | (simp only [slotArgs]; rfl)) ?_)
  refine wpAny_bind (wpAny_pure (wpAny_bind (T.at (wpAny_bind (F.at ?_)))))
  show wpAny _ _ (holding [Value.builtin "object.__class__"] (call (.builtin "getset_descriptor.__get__") [.builtin "object.__class__", .ref x, .ref D]) >>= ret) _ _ _
  refine wpAny_bind (wpAny_holding (wpAny_call (class_get (s := ⟨hp, g, d, t + 1, os⟩) (ox := ox) (od := od) X I C.hm (wpAny_pure ?_))))
  show wpAny _ _ (handedOut (.ref D)) _ _ _
  rw [handedOut_of (v := .ref D) rfl]
  first
    | exact wpAny_pure (wpAny_pure h)
    | exact wpAny_pure h
    | exact wpAny_pure (wpAny_bind (wpAny_pure (wpAny_pure h)))
theorem nw_kitE (C : L2.ExcC K D) : KitX K (.ref x) (.ref D) (fun h => InstAt h x ox D od) where
  ty := fun _ _ _ I => I.type
  it := fun _ _ X _ => by
    obtain ⟨cdD, hcD, _⟩ := any_some C.hd
    unfold clsIn at hcD
    split at hcD
    · rename_i c' d' cd' sl' ho
      intro A' Q' E' s' k q
      unfold isType loadHead
      exact wpAny_bind (wpAny_loadPart (k _ _ (X _ _ ho)) (wpAny_pure q))
    · cases hcD
  ne := fun h tp dd its n sl X htp => by
    obtain ⟨cdD, hcD, _⟩ := any_some C.hd
    refine Bool.eq_false_iff.mpr fun q => ?_
    cases Value.ref.inj (beq_iff_eq.mp q)
    unfold clsIn at hcD
    split at hcD
    · rename_i c' d' cd' sl' ho
      cases (X _ _ ho).symm.trans htp
    · cases hcD
  ca := fun X I k => nw_classE C X I k
end
end PySem.W
namespace Nw
open PySem PySem.Spec PyProof.Rows L2

/-! ### the errors' classes -/
def subT (x y : Str) : Bool := decide (x = y) || decide (y = "RingError")
def dec2 (a b : Option Bool) : Bool := decide (a = b)
def excCB (K : PySem.W.Frag) (D : Addr) : Bool :=
  decide (PySem.W.findIn K (.ref D) "__getattribute__" = some (some (.builtin "BaseException.__getattribute__"))) && (decide (PySem.W.findIn K (.ref D) "__getattr__" = some none) && (decide (PySem.W.subIn K (.ref D) (.type "BaseException") = some true) && (PySem.W.hasDictIn K D &&
  (decide (PySem.W.findIn K (.ref D) "__class__" = some (some (.builtin "object.__class__"))) && (decide (PySem.W.specialIn K (.builtin "object.__class__") "__get__" = some (some (.builtin "getset_descriptor.__get__"))) && (decide (PySem.W.takesIn K (.builtin "object.__class__") = some true) && decide (PySem.W.mroIn K D (.type "object") = some true)))))))
theorem excCB_ok {K : PySem.W.Frag} {D : Addr} (h : excCB K D = true) : ExcC K D := by
  unfold excCB at h
  simp only [Bool.and_eq_true, decide_eq_true_eq] at h
  obtain ⟨h1, h2, h3, h4, h5, h6, h7, h8⟩ := h
  exact ⟨h1, h2, h3, h4, h5, h6, h7, h8⟩
/-- a class with an own __init__ -/
def oexB (K : PySem.W.Frag) (C : Addr) : Bool := match K.lookup C with
  | some ⟨.type c, _, .cls cd, sl⟩ => (match cd.mro, sl.toList with
    | .ref C' :: bm, [_, _, _, _, some (.builtin n), _] => decide (c = "type") && (decide (C' = C) && (decide (n = "ValueError.__new__") && (!cd.hasDel && (cd.hasDict && (PySem.HandSPX.refsVE bm &&
      (decide (PySem.W.findIn K (.ref C) "__setattr__" = some (some (.builtin "object.__setattr__"))) && (decide (PySem.W.subIn K (.ref C) (.type "BaseException") = some true) && (decide (PySem.W.typeIn K (.ref C) = some (.type "type")) && PySem.W.keepIn K (.ref C)))))))))
    | _, _ => false)
  | _ => false
theorem oexB_ok {K : PySem.W.Frag} {C : Addr} (h : oexB K C = true) : OexC K C := by
  unfold oexB at h
  split at h
  · rename_i c dd cd sl ho
    split at h
    · rename_i C' bm k0 k1 k2 k3 n k5 hm hs
      simp only [Bool.and_eq_true, decide_eq_true_eq, Bool.not_eq_true'] at h
      obtain ⟨rfl, rfl, rfl, hdel, hdct, hr, h1, h2, h3, h4⟩ := h
      obtain ⟨nm, bs, mro, ns, qn, hd, sn, sub, ab, col, del⟩ := cd
      dsimp only at hm hdel hdct
      subst hm hdel hdct
      have hsl : sl = #[k0, k1, k2, k3, some (.builtin "ValueError.__new__"), k5] := by
        obtain ⟨l⟩ := sl
        simp only at hs
        rw [hs]
      subst hsl
      exact ⟨⟨_, _, _, _, _, _, _, _, _, _, _, _, _, _, _, ho, hr⟩, h1, h2, h3, h4⟩
    · cases h
  · cases h
def errB (K : PySem.W.Frag) (pl ini : List Str) : Bool :=
  (pl.all fun c => (He.Fa.exc c).ok K) && ((ini.all fun c => oexB K (He.ga K c) && ((exF c).all fun f => decide (PySem.W.findIn K (.ref (He.ga K c)) f = some none)) && (decide (PySem.W.findIn K (.ref (He.ga K c)) "__init__" = some (some (.ref (He.ma K (He.ga K c) "__init__")))) && decide (PySem.W.typeIn K (.ref (He.ma K (He.ga K c) "__init__")) = some (.type "function"))))
  && ((pl ++ ini).all fun c => (He.Fa.glo c).ok K && (excCB K (He.ga K c) && (xfB K (He.ga K c) && (dec2 (PySem.W.kitOne K (.ref (He.ga K c)) (.type "ValueError")) (some true) && (dec2 (PySem.W.exmOne K (.ref (He.ga K c)) (.ref (He.ga K "RingError"))) (some true) && (pl ++ ini).all fun c' => dec2 (PySem.W.kitOne K (.ref (He.ga K c)) (.ref (He.ga K c'))) (some (subT c c'))))))))
/-- what the written part says of the errors' classes -/
structure Errs (K : PySem.W.Frag) (mg : Str → Option Value) (pl ini : List Str) : Prop where
  ok : errB K pl ini = true
  glo : ∀ c, c ∈ pl ++ ini → mg c = some (.ref (He.ga K c))
section
variable {K : PySem.W.Frag} {mg : Str → Option Value} {pl ini : List Str} {c c' : Str}
theorem Errs.of {h : Heap} (X : K.In h) (G : h.Ns mainGlobals mg) (q : errB K pl ini = true) : Errs K mg pl ini := by
  refine ⟨q, fun c hc => ?_⟩
  unfold errB at q
  simp only [Bool.and_eq_true, List.all_eq_true] at q
  exact He.glo_ok X G (q.2.2 c hc).1
theorem Errs.exc (T : Errs K mg pl ini) (h : c ∈ pl) : (He.Fa.exc c).ok K = true := by
  have q := T.ok
  unfold errB at q
  simp only [Bool.and_eq_true, List.all_eq_true] at q
  exact q.1 c h
theorem Errs.excC (T : Errs K mg pl ini) (h : c ∈ pl ++ ini) : ExcC K (He.ga K c) := by
  have q := T.ok
  unfold errB at q
  simp only [Bool.and_eq_true, List.all_eq_true] at q
  exact excCB_ok (q.2.2 c h).2.1
theorem Errs.xf (T : Errs K mg pl ini) (h : c ∈ pl ++ ini) : XfC K (He.ga K c) := by
  have q := T.ok
  unfold errB at q
  simp only [Bool.and_eq_true, List.all_eq_true] at q
  exact xfB_ok (q.2.2 c h).2.2.1
theorem Errs.ve (T : Errs K mg pl ini) (h : c ∈ pl ++ ini) : PySem.W.kitOne K (.ref (He.ga K c)) (.type "ValueError") = some true := by
  have q := T.ok
  unfold errB dec2 at q
  simp only [Bool.and_eq_true, List.all_eq_true, decide_eq_true_eq] at q
  exact (q.2.2 c h).2.2.2.1
theorem Errs.re (T : Errs K mg pl ini) (h : c ∈ pl ++ ini) : PySem.W.exmOne K (.ref (He.ga K c)) (.ref (He.ga K "RingError")) = some true := by
  have q := T.ok
  unfold errB dec2 at q
  simp only [Bool.and_eq_true, List.all_eq_true, decide_eq_true_eq] at q
  exact (q.2.2 c h).2.2.2.2.1
theorem Errs.kit (T : Errs K mg pl ini) (h : c ∈ pl ++ ini) (h' : c' ∈ pl ++ ini) : PySem.W.kitOne K (.ref (He.ga K c)) (.ref (He.ga K c')) = some (subT c c') := by
  have q := T.ok
  unfold errB dec2 at q
  simp only [Bool.and_eq_true, List.all_eq_true, decide_eq_true_eq] at q
  exact (q.2.2 c h).2.2.2.2.2 c' h'
theorem Errs.init (T : Errs K mg pl ini) (h : c ∈ ini) : OexC K (He.ga K c) ∧ (∀ f, f ∈ exF c → PySem.W.findIn K (.ref (He.ga K c)) f = some none) ∧ PySem.W.findIn K (.ref (He.ga K c)) "__init__" = some (some (.ref (He.ma K (He.ga K c) "__init__"))) ∧ PySem.W.typeIn K (.ref (He.ma K (He.ga K c) "__init__")) = some (.type "function") := by
  have q := T.ok
  unfold errB at q
  simp only [Bool.and_eq_true, List.all_eq_true, decide_eq_true_eq] at q
  obtain ⟨⟨h1, h2⟩, h3, h4⟩ := q.2.1 c h
  exact ⟨oexB_ok h1, h2, h3, h4⟩
end

/-! ### raise -/
def sRaise0 (c : Str) : DS := fun env m => .exc ⟨c, []⟩ env m
section
variable {X : Cx} {pl ini : List Str} {c : Str} {W0 : WX} {p pos pos' : Pos}
/-- C() -/
theorem pmk_own0 (T : Errs X.K X.mg pl ini) (h : c ∈ pl) (hg : Gl X c) (hdb : (c == ("__debug__" : Str)) = false := by decide) : PMk X (.Call (.Name c p) [] [] pos) (fun _ H Q => Q (.ref (He.ga X.K c)) none H) := by
  intro pins s σ H Q I q
  obtain ⟨h1, h2, h3, h4⟩ := He.exc_ok (T.exc h)
  refine wpAny_Call_Name_kw (ld_glob I hg (T.glo c (List.mem_append_left _ h)) ?_ hdb)
  refine PySem.W.callWith_K0 I.kIn h2 ?_
  show wpAny _ _ (call (.ref (He.ga X.K c)) []) _ _ _
  obtain ⟨bm, N, nm, qn, bs, hdct, sn, sub, ab, col, dd, k0, k1, k2, k3, k5, mN, hC, hN, hni, TT⟩ := exc_obj I.kIn h1
  refine wpAny_call_exc_subT F.excBase_ValueError TT hC hN hni (fun h' e hm => ?_) (by show 0 ≤ sizeLine; exact Nat.zero_le _)
  exact mk_of I hm (raises_own h3 h4) q (I.hok.gone hm.new)
theorem js_raise0 (hc : X.calm = true) (tk : Takes X W0) (T : Errs X.K X.mg pl ini) (h : c ∈ pl) (hg : Gl X c) (hdb : (c == ("__debug__" : Str)) = false := by decide) : JS X none W0 (.Raise (some (.Call (.Name c p) [] [] pos)) none pos') (sRaise0 c) :=
  ps_imp (ps_raise hc tk (pmk_own0 T h hg hdb)) fun D s H ⟨r, m, env, R, E, w⟩ => w r H _ none s (Step.refl R) E ⟨rfl, fun _ => rfl, fun z => absurd rfl z⟩
end

/-! ### isinstance -/
/-- the built-in types that are asked for -/
inductive Ty where
  | int | bool | tuple | list | str | dict
def Ty.nm : Ty → String
  | .int => "int"
  | .bool => "bool"
  | .tuple => "tuple"
  | .list => "list"
  | .str => "str"
  | .dict => "dict"
def Ty.is : Ty → Ty → Bool
  | .int, .int => true
  | .bool, .bool => true
  | .tuple, .tuple => true
  | .list, .list => true
  | .str, .str => true
  | .dict, .dict => true
  | _, _ => false
def Ty.has (t : Ty) (w : W) (m : Mem) : Option Bool := match w with
  | .non => some false
  | .bl _ => some (t.is .int || t.is .bool)
  | .int _ => some (t.is .int)
  | .str _ => some (t.is .str)
  | .tup _ => some (t.is .tuple)
  | .ref k => if (seqAt m k).isSome then some (t.is .list) else none
  | _ => none
theorem sqT_ty {K : PySem.W.Frag} {H : Hp} {a : Addr} {vs : List V} (h : SqT K H a vs) : TyX K H (.ref a) (.type "tuple") := by
  rcases h with (h | ⟨o, h⟩) | h
  · exact .base (.tup h)
  · exact .fTuple h
  · obtain ⟨o, its, n, e, hc, _⟩ := h
    exact .kTuple e hc
theorem fzL_ty {K : PySem.W.Frag} {H : Hp} {a : Addr} {vs : List V} (h : FzL K H a vs) : TyX K H (.ref a) (.type "list") := by
  rcases h with ⟨o, h⟩ | h | h
  · exact .base (.frz h)
  · rcases h with h | ⟨o, h⟩ <;> cases h
  · obtain ⟨o, its, n, e, hc, _⟩ := h
    exact .kList e hc
theorem has_of {K : PySem.W.Frag} {hot : Option Hot} {r : Nat → Addr} {m : Mem} {H : Hp} {t : Ty} {w : W} {v : V} {b : Bool} (R : Rep K hot r m H) (hv : VR K hot r m.length H w v) (h : t.has w m = some b) : ∃ ty, TyX K H v ty ∧ PySem.W.kitOne K ty (.type t.nm) = some b := by
  cases hv with
  | non =>
    cases h
    exact ⟨_, .base .non, by cases t <;> exact kit_ty (by decide +kernel)⟩
  | bl b =>
    cases h
    exact ⟨_, .base (.bl b), by cases t <;> exact kit_ty (by decide +kernel)⟩
  | int i =>
    cases h
    exact ⟨_, .base (.int i), by cases t <;> exact kit_ty (by decide +kernel)⟩
  | str x =>
    cases h
    exact ⟨_, .base (.str x), by cases t <;> exact kit_ty (by decide +kernel)⟩
  | tup hs hl =>
    cases h
    exact ⟨_, sqT_ty hs, by cases t <;> exact kit_ty (by decide +kernel)⟩
  | @ref k hk =>
    have h : (if (seqAt m k).isSome then some (t.is .list) else none) = some b := h
    unfold seqAt at h
    cases q : m[k]? with
    | none => rw [q] at h; cases h
    | some o =>
      have ob := R.ob k o q
      rw [q] at h
      have ty : TyX K H (.ref (r k)) (.type "list") := by
        cases o with
        | lst l =>
          obtain ⟨vs, h1, _⟩ := ob
          exact .base (.lst h1)
        | fro l =>
          obtain ⟨vs, h1, _⟩ := ob
          exact fzL_ty h1
      refine ⟨_, ty, ?_⟩
      cases o <;> cases h <;> cases t <;> exact kit_ty (by decide +kernel)
  | fn x => cases h
  | exv q => cases h
/-- isinstance(e, t) -/
def dIsi (t : Ty) (d : DE) : DE := fun env m => (d env m).bind fun w m1 => match t.has w m1 with
  | some b => .ok (.bl b) m1
  | none => .bad
section
variable {X : Cx} {hot : Option Hot} {x : WX} {e : Expr} {d : DE} {q p2 pos : Pos}
theorem je_isi {t : Ty} (h : PE X e (tCB (rIsi X.K) (tCons (tE X.K hot x d) (tCons (tC (.ty t.nm)) tNil)))) : JE X hot x e (dIsi t d) := pe_imp h fun s H Q hq => by
  refine one_of (R1 := fun va H1 => tCons (tC (.ty t.nm)) tNil s H1 fun vs H2 => rIsi X.K (va :: vs) H2 Q) hq fun r m H' u va R hu w => ?_
  cases h : t.has u m with
  | none => rw [h] at w; exact w.elim
  | some b =>
    rw [h] at w
    obtain ⟨ty, h1, h2⟩ := has_of R hu h
    exact ⟨va, _, ty, _, b, rfl, .ty _, h1, h2, w r H' (Step.refl R) _ (.bl b)⟩
end
/-- isinstance(e, C), C an error's class (or ValueError) -/
def dIse (pl ini : List Str) (c : Str) (d : DE) : DE := fun env m => (d env m).bind fun w m1 => match w with
  | .exv k _ => if k ∈ pl ++ ini then .ok (.bl (if c = "ValueError" then true else subT k c)) m1 else .bad
  | _ => .bad
theorem call_isX {X : Cx} {h : Hot} {D : Addr} (C : ExcC X.K D) (hp : HotIn X (some h)) (hcls : h.cls = .ref D) : CallR X (.builtin "isinstance") (fun xs H Q => ∃ (c : V) (cv : Value) (b : Bool), xs = [.ref h.a, c] ∧ (∀ dd, h.d = some dd → ∃ fs, H dd = some (.xd fs)) ∧ ClsV c cv ∧ PySem.W.kitOne X.K (.ref D) cv = some b ∧ Q (.bl b) H) := by
  intro pins s σ H xs us Q I rr hh
  obtain ⟨c, cv, b, rfl, hxd, hcv, e, q⟩ := hh
  obtain ⟨u1, u2, rfl, r1, r2⟩ := vals2 rr
  cases (show u1 = Value.ref h.a from r1)
  have ec := hcv.eq r2
  subst ec
  obtain ⟨oe, hm, hz, vs, hv⟩ := hp h rfl
  obtain ⟨hget, _⟩ := I.pin (h.a, oe) (List.mem_append_left _ hm)
  have J : ∃ od, PySem.W.InstAt s.heap h.a oe D od := by
    have no : PySem.W.notCls oe = true := by unfold PySem.W.notCls; rw [hv]
    cases hd : h.d with
    | none => exact ⟨none, hget, hz.1.trans hcls, no, by rw [hz.2, hd]; trivial⟩
    | some dd =>
      obtain ⟨fs, hfs⟩ := hxd dd hd
      obtain ⟨mA, hns, _⟩ := (show ObjOk X.prog X.w H s.heap dd (.xd fs) from I.hok dd _ hfs)
      obtain ⟨od, ho, _⟩ := lookIn_ns hns
      exact ⟨some od, hget, hz.1.trans hcls, no, by rw [hz.2, hd]; exact ho⟩
  obtain ⟨od, J⟩ := J
  exact PySem.W.kia_one (PySem.W.nw_kitE C) I.kIn J e (fun z => nomatch z) fun tk => ⟨.bl b, H, I.tok tk, rfl, q⟩
section
variable {X : Cx} {hot : Option Hot} {x : WX} {e : Expr} {d : DE} {q p2 pos : Pos} {pl ini : List Str} {c : Str}
theorem exv_of {K : PySem.W.Frag} {r : Nat → Addr} {m : Mem} {H : Hp} {k : Str} {as : List W} {va : V} (R : Rep K hot r m H) (hu : VR K hot r m.length H (.exv k as) va) : ∃ h, hot = some h ∧ va = .ref h.a ∧ k = h.e.cls ∧ as = h.e.args ∧ h.cls = .ref (He.ga K k) ∧ ∀ dd, h.d = some dd → ∃ fs, H dd = some (.xd fs) := by
  cases hu with
  | @exv h hq =>
    obtain ⟨h1, h2, h3⟩ := R.hx h hq
    refine ⟨h, hq, rfl, rfl, rfl, h1, fun dd hd => ?_⟩
    by_cases ha : h.e.args = []
    · rw [h2 ha] at hd
      cases hd
    · obtain ⟨dd', fs, e1, e2, _⟩ := h3 ha
      rw [e1] at hd
      cases hd
      exact ⟨fs, e2⟩
theorem je_ise (T : Errs X.K X.mg pl ini) (hc : c ∈ pl ++ ini ∨ c = "ValueError") (hp : HotIn X hot) (hg : Gl X "isinstance") (hm : X.mg "isinstance" = none) (hb : bootBuiltins "isinstance" = some (.builtin "isinstance"))
    (ha : PA X [e, .Name c p2] (tCons (tE X.K hot x d) (tCons (tC (if c = "ValueError" then .ty "ValueError" else .ref (He.ga X.K c))) tNil)))
    (he : starEach [e, .Name c p2] X.env = (false, eval e X.env) :: starEach [.Name c p2] X.env := by rfl) (hpl : (backTo pos (starEach [.Name c p2] X.env)).any (·.1) = false := by rfl) :
    JE X hot x (.Call (.Name "isinstance" q) [e, .Name c p2] [] pos) (dIse pl ini c d) := by
  refine ⟨fun pins s σ H Q I hq => ?_⟩
  obtain ⟨r, m, env, R, E, w⟩ := hq
  refine wpAny_Call_Name_kw (ld_blt I hg hm hb (PyProof.Rows.callWith_builtin1 (thn (ha.run pos pins s σ H (fun vs H1 => ∃ va r m u, vs = [va, if c = "ValueError" then .ty "ValueError" else .ref (He.ga X.K c)] ∧ Rep X.K hot r m H1 ∧ VR X.K hot r m.length H1 u va ∧
    Wp X.K hot x σ r m H1 (match u with
      | .exv k _ => if k ∈ pl ++ ini then .ok (.bl (if c = "ValueError" then true else subT k c)) m else .bad
      | _ => .bad) fun w r' m' H' => ∀ v, VR X.K hot r' m'.length H' w v → Q v H') I ⟨r, m, env, R, E, (Wp.bind w).imp fun u r1 m1 H1 S1 w1 va hva => ⟨va, r1, m1, u, rfl, S1.rep, hva, w1⟩⟩) fun us s1 hh => ?_) he hpl) (by decide) (by decide))
  obtain ⟨vs, H1, I1, r1, va, r1', m1, u, ev, R1, hu, w1⟩ := hh
  subst ev
  cases u with
  | exv k as =>
    obtain ⟨h, h1, h2, h3, h4, h5, h6⟩ := exv_of R1 hu
    subst h1 h2
    dsimp only at w1
    by_cases hk : k ∈ pl ++ ini
    · rw [if_pos hk] at w1
      refine call_isX (T.excC hk) hp h5 pins s1 σ H1 _ us Q I1 r1 ?_
      by_cases hv : c = "ValueError"
      · rw [if_pos hv] at w1 ⊢
        exact ⟨_, _, true, rfl, h6, .ty _, T.ve hk, w1 _ _ (Step.refl R1) _ (.bl _)⟩
      · rw [if_neg hv] at w1 ⊢
        exact ⟨_, _, _, rfl, h6, .own _, T.kit hk (hc.resolve_right hv), w1 _ _ (Step.refl R1) _ (.bl _)⟩
    · rw [if_neg hk] at w1
      exact w1.elim
  | _ => exact w1.elim
end
end Nw
set_option Elab.async false
set_option linter.all false
set_option maxRecDepth 100000
set_option maxHeartbeats 2000000
namespace Nw
open PySem PySem.Spec PyProof.Rows L2

/-! ### methods of lists, texts -/
abbrev OpM := W → List W → Mem → Option (W × Mem)
def rMt (K : PySem.W.Frag) (hot : Option Hot) (f : OpM) : V → List V → Hp → VK → Prop := fun x xs H Q => ∃ r m a ws, Rep K hot r m H ∧ VR K hot r m.length H a x ∧ VRs K hot r m.length H ws xs ∧ Wo K hot r m H (f a ws m) Q
/-- what may receive -/
inductive Rc where
  | list | str
def Rc.nm : Rc → String
  | .list => "list"
  | .str => "str"
def Rc.ok (c : Rc) (w : W) (m : Mem) : Bool := match c, w with
  | .list, .ref k => (seqAt m k).isSome
  | .str, .str _ => true
  | _, _ => false
def dBM (c : Rc) (f : OpM) (o : DE) (a : DA) : DE := fun env m => (o env m).bind fun x m1 => if c.ok x m1 = true then (a env m1).bind fun xs m2 => lift (f x xs m2) else .bad
def dBM0 (c : Rc) (f : OpM) (o : DE) : DE := fun env m => (o env m).bind fun x m1 => if c.ok x m1 = true then lift (f x [] m1) else .bad
theorem rc_of {K : PySem.W.Frag} {hot : Option Hot} {r : Nat → Addr} {m : Mem} {H : Hp} {c : Rc} {w : W} {v : V} (R : Rep K hot r m H) (hv : VR K hot r m.length H w v) (h : c.ok w m = true) : tyV K c.nm v H := by
  cases c with
  | list => cases hv with
    | @ref k hk =>
      cases q : seqAt m k with
      | none =>
        have h : (seqAt m k).isSome = true := h
        rw [q] at h
        cases h
      | some l =>
        obtain ⟨_, vs, h1, _⟩ := R.seq q
        exact .inl ⟨rfl, vs, h1⟩
    | _ => cases h
  | str => cases hv with
    | str x => rfl
    | _ => cases h
section
variable {X : Cx} {hot : Option Hot} {x : WX} {e : Expr} {c : Rc} {f : OpM} {o : DE} {a : DA}
theorem je_bm (h : PE X e (tBM X.K c.nm (rMt X.K hot f) (tE X.K hot x o) (tA X.K hot x a))) : JE X hot x e (dBM c f o a) := pe_imp h fun s H Q ⟨r, m, env, R, E, w⟩ => by
  refine ⟨r, m, env, R, E, (Wp.bind w).imp fun u r1 m1 H1 S1 w1 v hv => ?_⟩
  by_cases q : c.ok u m1 = true
  · rw [if_pos q] at w1
    exact ⟨rc_of S1.rep hv q, r1, m1, env, S1.rep, E.step S1, (Wp.bind w1).imp fun us r2 m2 H2 S2 w2 vs hvs => ⟨r2, m2, u, us, S2.rep, S2.vr hv, hvs, Wo.of w2⟩⟩
  · rw [if_neg q] at w1
    exact w1.elim
theorem je_bm0 (h : PE X e (tBM0 X.K c.nm (rMt X.K hot f) (tE X.K hot x o))) : JE X hot x e (dBM0 c f o) := pe_imp h fun s H Q ⟨r, m, env, R, E, w⟩ => by
  refine ⟨r, m, env, R, E, (Wp.bind w).imp fun u r1 m1 H1 S1 w1 v hv => ?_⟩
  by_cases q : c.ok u m1 = true
  · rw [if_pos q] at w1
    exact ⟨rc_of S1.rep hv q, r1, m1, u, [], S1.rep, hv, .nil, Wo.of w1⟩
  · rw [if_neg q] at w1
    exact w1.elim
end
def appendW : OpM := fun a ws m => match a, ws with
  | .ref k, [w] => (match lstOf m k with
    | some l => if l.length < 100000 then some (.non, m.set k (.lst (l ++ [w]))) else none
    | none => none)
  | _, _ => none
def extendW : OpM := fun a ws m => match a, ws with
  | .ref k, [.ref j] => (match lstOf m k, lstOf m j with
    | some l, some l' => if l.length + l'.length ≤ 100000 then some (.non, m.set k (.lst (l ++ l'))) else none
    | _, _ => none)
  | _, _ => none
def popW : OpM := fun a ws m => match a, ws with
  | .ref k, [] => (match lstOf m k with
    | some l => (l[l.length - 1]?).map fun w => (w, m.set k (.lst l.dropLast))
    | none => none)
  | .ref k, [.int i] => (match lstOf m k with
    | some l => if 0 ≤ i ∧ i < 100000 then (l[i.toNat]?).map fun w => (w, m.set k (.lst (l.eraseIdx i.toNat))) else none
    | none => none)
  | _, _ => none
def pop0W : OpM := fun a ws m => match a with
  | .ref k => (match lstOf m k with
    | some l => (l[l.length - 1]?).map fun w => (w, m.set k (.lst l.dropLast))
    | none => none)
  | _ => none
def seqD (m : Mem) (w : W) : Option (List PyData) := match w with
  | .ref k => (match seqAt m k with
    | some l => sq (l.map (toD m deep))
    | none => none)
  | _ => none
def dataOf (m : Mem) (w : W) (ws : List W) : Option (List PyData × PyData) := match ws with
  | [y] => (match seqD m w, toD m deep y with
    | some ds, some d => if SeqAt.shaped (.list ds) = true ∧ SeqAt.shaped d = true then some (ds, d) else none
    | _, _ => none)
  | _ => none
def indexW : OpM := fun a ws m => match dataOf m a ws with
  | some (ds, d) => (ds.findIdx? fun z => PyData.eqv z d).map fun j => (.int j, m)
  | none => none
def countW : OpM := fun a ws m => match dataOf m a ws with
  | some (ds, d) => some (.int (ds.countP fun z => PyData.eqv z d), m)
  | none => none
theorem VRs.eraseIdx {K : PySem.W.Frag} {hot : Option Hot} {r : Nat → Addr} {n : Nat} {H : Hp} : ∀ {ws : List W} {vs : List V} (k : Nat), VRs K hot r n H ws vs → VRs K hot r n H (ws.eraseIdx k) (vs.eraseIdx k)
  | _, _, 0, .nil => .nil
  | _, _, _ + 1, .nil => .nil
  | _, _, 0, .cons _ b => b
  | _, _, k + 1, .cons a b => .cons a (VRs.eraseIdx k b)
theorem VRs.dropLast {K : PySem.W.Frag} {hot : Option Hot} {r : Nat → Addr} {n : Nat} {H : Hp} : ∀ {ws : List W} {vs : List V}, VRs K hot r n H ws vs → VRs K hot r n H ws.dropLast vs.dropLast
  | _, _, .nil => .nil
  | _, _, .cons a .nil => .nil
  | _, _, .cons a (.cons b c) => .cons a (VRs.dropLast (.cons b c))
theorem data_of {K : PySem.W.Frag} {hot : Option Hot} {r : Nat → Addr} {m : Mem} {H : Hp} {a : W} {ws : List W} {x : V} {xs : List V} {ds : List PyData} {d : PyData} (R : Rep K hot r m H) (ha : VR K hot r m.length H a x) (hw : VRs K hot r m.length H ws xs) (h : dataOf m a ws = some (ds, d)) :
    ∃ p y vs, x = .ref p ∧ xs = [y] ∧ SqL K H p vs ∧ DpAll K H vs ds ∧ Dp K H y d ∧ SeqAt.shaped (.list ds) = true ∧ SeqAt.shaped d = true := by
  unfold dataOf at h
  split at h
  · rename_i y
    cases hw with
    | cons hy hn =>
      cases hn
      split at h
      · rename_i ds' d' h1 h2
        by_cases c : SeqAt.shaped (.list ds') = true ∧ SeqAt.shaped d' = true
        · rw [if_pos c] at h
          cases h
          unfold seqD at h1
          cases ha with
          | @ref k hk =>
            dsimp only at h1
            cases q : seqAt m k with
            | none => rw [q] at h1; cases h1
            | some l =>
              rw [q] at h1
              obtain ⟨_, vs, e1, e2⟩ := R.seq q
              exact ⟨_, _, vs, rfl, rfl, e1, dps_of (dp_of R deep) l vs ds h1 e2, dp_of R deep _ _ _ h2 hy, c.1, c.2⟩
          | _ => cases h1
        · rw [if_neg c] at h
          cases h
      · cases h
  · cases h
section
variable {X : Cx} {hot : Option Hot}
theorem mt_appendW : MtR X "list.append" (rMt X.K hot appendW) := by
  intro pins s σ H x xs v us Q I rx rxs ⟨r, m, a, ws, R, ha, hw, q⟩
  unfold appendW at q
  split at q
  · rename_i k w
    cases ha with
    | ref hk =>
      cases hw with
      | @cons _ _ y _ hy hn =>
        cases hn
        cases e : lstOf m k with
        | none => rw [e] at q; exact q.elim
        | some l =>
          rw [e] at q
          dsimp only at q
          by_cases c : l.length < 100000
          · rw [if_pos c] at q
            obtain ⟨vs, h1, h2⟩ := R.lt (Rep.lst R e)
            exact mt_append pins s σ H _ _ v us Q I rx rxs ⟨_, vs, y, rfl, rfl, h1, by rw [← h2.length]; exact line_lt (Nat.le_of_lt c), q.put R (Rep.lst R e) (h2.append (.cons hy .nil)) .non⟩
          · rw [if_neg c] at q
            exact q.elim
  · exact q.elim
theorem mt_extendW : MtR X "list.extend" (rMt X.K hot extendW) := by
  intro pins s σ H x xs v us Q I rx rxs ⟨r, m, a, ws, R, ha, hw, q⟩
  unfold extendW at q
  split at q
  · rename_i k j
    cases ha with
    | ref hk =>
      cases hw with
      | @cons _ _ y _ hy hn =>
        cases hn
        cases hy with
        | ref hj =>
          cases e : lstOf m k with
          | none => rw [e] at q; exact q.elim
          | some l =>
            cases e2 : lstOf m j with
            | none => rw [e, e2] at q; exact q.elim
            | some l' =>
              rw [e, e2] at q
              dsimp only at q
              by_cases c : l.length + l'.length ≤ 100000
              · rw [if_pos c] at q
                obtain ⟨vs, h1, h2⟩ := R.lt (Rep.lst R e)
                obtain ⟨vs', h3, h4⟩ := R.lt (Rep.lst R e2)
                exact mt_extend pins s σ H _ _ v us Q I rx rxs ⟨_, _, vs, vs', rfl, rfl, h1, h3, by rw [← h2.length, ← h4.length]; exact line_le c, q.put R (Rep.lst R e) (h2.append h4) .non⟩
              · rw [if_neg c] at q
                exact q.elim
  · exact q.elim
theorem mt_popW : MtR X "list.pop" (rMt X.K hot popW) := by
  intro pins s σ H x xs v us Q I rx rxs ⟨r, m, a, ws, R, ha, hw, q⟩
  unfold popW at q
  split at q
  · rename_i k
    cases ha with
    | ref hk =>
      cases hw
      cases e : lstOf m k with
      | none => rw [e] at q; exact q.elim
      | some l =>
        rw [e] at q
        dsimp only at q
        cases e2 : l[l.length - 1]? with
        | none => rw [e2] at q; exact q.elim
        | some w =>
          rw [e2] at q
          obtain ⟨vs, h1, h2⟩ := R.lt (Rep.lst R e)
          obtain ⟨y, h3, h4⟩ := h2.get e2
          exact mt_pop pins s σ H _ _ v us Q I rx rxs ⟨_, vs, y, rfl, rfl, h1, by rw [← h2.length]; exact h3, Wo.put q R (Rep.lst R e) h2.dropLast h4⟩
  · rename_i k i
    cases ha with
    | ref hk =>
      cases hw with
      | @cons _ _ y _ hy hn =>
        cases hn
        cases hy
        cases e : lstOf m k with
        | none => rw [e] at q; exact q.elim
        | some l =>
          rw [e] at q
          dsimp only at q
          by_cases c : 0 ≤ i ∧ i < 100000
          · rw [if_pos c] at q
            cases e2 : l[i.toNat]? with
            | none => rw [e2] at q; exact q.elim
            | some w =>
              rw [e2] at q
              obtain ⟨vs, h1, h2⟩ := R.lt (Rep.lst R e)
              obtain ⟨y, h3, h4⟩ := h2.get e2
              have hi : i.toNat < vs.length := (List.getElem?_eq_some_iff.mp h3).1
              exact mt_popAt pins s σ H _ _ v us Q I rx rxs ⟨_, vs, i, i.toNat, y, rfl, rfl, h1, by omega, by omega, (ixN_seq (j := i.toNat) (by unfold ixN; rw [if_pos c.1, if_pos (by omega)])).1, h3, Wo.put q R (Rep.lst R e) (h2.eraseIdx _) h4⟩
          · rw [if_neg c] at q
            exact q.elim
  · exact q.elim
theorem mt_indexW (hu : X.A.units + 65 < cLine) : MtR X "list.index" (rMt X.K hot indexW) := by
  intro pins s σ H x xs v us Q I rx rxs ⟨r, m, a, ws, R, ha, hw, q⟩
  unfold indexW at q
  split at q
  · rename_i ds d h
    obtain ⟨p, y, vs, rfl, rfl, h1, h2, h3, h4, h5⟩ := data_of R ha hw h
    cases e : ds.findIdx? (fun z => PyData.eqv z d) with
    | none => rw [e] at q; exact q.elim
    | some j =>
      rw [e] at q
      obtain ⟨hj, h6, h7⟩ := List.findIdx?_eq_some_iff_getElem.mp e
      refine mt_indexD hu pins s σ H _ _ v us Q I rx rxs ⟨p, y, d, ds, j, ds[j], rfl, rfl, .lst h1 h2, h3, h4, h5, List.getElem?_eq_getElem hj, h6, fun i z hi hz => ?_, Wo.val q R (.int _)⟩
      obtain ⟨hi2, hz⟩ := List.getElem?_eq_some_iff.mp hz
      have := h7 i hi
      rw [hz] at this
      simpa using this
  · exact q.elim
theorem mt_countW (hu : X.A.units + 65 < cLine) : MtR X "list.count" (rMt X.K hot countW) := by
  intro pins s σ H x xs v us Q I rx rxs ⟨r, m, a, ws, R, ha, hw, q⟩
  unfold countW at q
  split at q
  · rename_i ds d h
    obtain ⟨p, y, vs, rfl, rfl, h1, h2, h3, h4, h5⟩ := data_of R ha hw h
    cases rx
    obtain ⟨uy, rfl, ry⟩ := rxs.one
    obtain ⟨its, rv, ⟨⟨cls, dd, data, sls⟩, n, ho, hc, hdn, hdt⟩, hlen⟩ := I.list h1
    simp only at hc hdt
    subst hc hdt
    obtain ⟨as, h6⟩ := Dp.readsAll I ds _ its h2 rv
    obtain ⟨bs, h7⟩ := Dp.reads I d y uy h3 ry
    have hxs : PyData.canLayAll0 ds = true := SeqAt.canLay_of_shaped h4
    have hmap : its.map (SeqAt.readOf s.heap) = ds := SeqAt.readsAll_map ds its as hxs h6
    refine call_meets PySem.F.slot_list_count ⟨_, ho, rfl⟩ PySem.F.entry_list_count (PySem.F.args_list_count_2 _ _)
      (SeqAt.list_countAt p its.toArray n dd sls uy (fun u => PyData.eqv (SeqAt.readOf s.heap u) d)) ⟨ho, SeqAt.items_eqAt (vs := its.toArray) (show ReadsAll s.heap its.toArray.toList ds as from h6) h7 hxs (SeqAt.canLay_of_shaped h5) (room_in_shaped h5 hu), ?_⟩
    have ec : its.toArray.toList.countP (fun u => PyData.eqv (SeqAt.readOf s.heap u) d) = ds.countP (fun z => PyData.eqv z d) := by
      rw [← hmap, List.countP_map]
      rfl
    refine ⟨.int (ds.countP (fun z => PyData.eqv z d) : Nat), H, I.tok _, ⟨s.toks, ?_⟩, Wo.val q R (.int _)⟩
    show Value.int ((its.toArray.toList.countP (fun u => PyData.eqv (SeqAt.readOf s.heap u) d) : Nat) : Int) s.toks = Value.int ((ds.countP (fun z => PyData.eqv z d) : Nat) : Int) s.toks
    rw [ec]
  · exact q.elim
end

/-! ### subscripts -/
def atW (l : List W) (i : Int) : Option W := if 0 ≤ i then l[i.toNat]? else if -i ≤ l.length then l[(l.length + i).toNat]? else none
def ixW : Op2 := fun a b m => match b with
  | .int i => (match a with
    | .str z => if z.length ≤ 100000 then (atI z.cps.toList i).map fun c => (.str ⟨#[c]⟩, m) else none
    | a => (match seqOf m a with
      | some l => (atW l i).map fun w => (w, m)
      | none => none))
  | _ => none
theorem atW_of {K : PySem.W.Frag} {hot : Option Hot} {r : Nat → Addr} {n : Nat} {H : Hp} {l : List W} {vs : List V} {i : Int} {w : W} (h : VRs K hot r n H l vs) (e : atW l i = some w) : ∃ v, atI vs i = some v ∧ VR K hot r n H w v := by
  unfold atW at e
  unfold atI ixN
  have hl := h.length
  by_cases c : 0 ≤ i
  · rw [if_pos c] at e ⊢
    obtain ⟨v, h1, h2⟩ := h.get e
    have hi := (List.getElem?_eq_some_iff.mp h1).1
    exact ⟨v, by rw [if_pos (by omega)]; exact h1, h2⟩
  · rw [if_neg c] at e ⊢
    by_cases c2 : -i ≤ l.length
    · rw [if_pos c2] at e
      obtain ⟨v, h1, h2⟩ := h.get e
      refine ⟨v, ?_, h2⟩
      rw [if_pos (by omega)]
      have : (vs.length + i).toNat = (i + vs.length).toNat := by rw [Int.add_comm]
      show vs[(i + vs.length).toNat]? = some v
      rw [← this, ← hl]
      exact h1
    · rw [if_neg c2] at e
      cases e
section
variable {X : Cx} {hot : Option Hot} {x : WX} {e : Expr} {da db : DE}
theorem ix_W : IxR X (rOf X.K hot ixW) := by
  intro value slice pins s σ H x y v u Q I rx ry ⟨r, m, a, b, R, ha, hb, q⟩ hs
  unfold ixW at q
  split at q
  · rename_i i
    cases hb
    refine ix_seq value slice pins s σ H x _ v u Q I rx ry ?_ hs
    split at q
    · rename_i z
      cases ha
      by_cases c : z.length ≤ 100000
      · rw [if_pos c] at q
        cases e : atI z.cps.toList i with
        | none => rw [e] at q; exact q.elim
        | some ch =>
          rw [e] at q
          exact .inr (.inr ⟨z, i, ch, rfl, rfl, line_le c, e, Wo.val q R (.str _)⟩)
      · rw [if_neg c] at q
        exact q.elim
    · cases e : seqOf m a with
      | none => rw [e] at q; exact q.elim
      | some l =>
        rw [e] at q
        dsimp only at q
        obtain ⟨p, vs, rfl, hsq, hv⟩ := R.seqW e ha
        cases e2 : atW l i with
        | none => rw [e2] at q; exact q.elim
        | some w =>
          rw [e2] at q
          obtain ⟨v', h1, h2⟩ := atW_of hv e2
          rcases hsq with h | h
          · exact .inl ⟨p, vs, i, v', rfl, rfl, h, h1, Wo.val q R h2⟩
          · exact .inr (.inl ⟨p, vs, i, v', rfl, rfl, h, h1, Wo.val q R h2⟩)
  · exact q.elim
theorem je_ix (h : PE X e (tOp (rOf X.K hot ixW) (tE X.K hot x da) (tE X.K hot x db))) : JE X hot x e (dOp ixW da db) := pe_imp h fun s H Q q => dop_of q
end

/-! ### slices -/
abbrev DO := Env → Mem → Out (Option Int)
def tOo (K : PySem.W.Frag) (hot : Option Hot) (x : WX) (d : DO) : TO := fun s H Q => ∃ r m env, Rep K hot r m H ∧ ER K hot r m.length H env s ∧ Wp K hot x s r m H (d env m) fun o _ _ H' => Q o H'
abbrev JO (X : Cx) (hot : Option Hot) (x : WX) (e : Option Expr) (d : DO) : Prop := PO X e (tOo X.K hot x d)
theorem po_imp {X : Cx} {e : Option Expr} {t t' : TO} (h : PO X e t) (k : ∀ s H Q, t' s H Q → t s H Q) : PO X e t' := ⟨fun pins s σ H Q I q => h.run pins s σ H Q I (k σ H Q q)⟩
def oNo : DO := fun _ m => .ok none m
def oAt (d : DE) : DO := fun env m => (d env m).bind fun w m1 => match w with
  | .int i => .ok (some i) m1
  | _ => .bad
def cutW (l : List W) (lo hi : Option Int) : List W := (l.drop (HT.sIx l.length 0 lo)).take (HT.sIx l.length l.length hi - HT.sIx l.length 0 lo)
def slW (lo hi : Option Int) : Op1 := fun a m => match a with
  | .tup l => some (.tup (cutW l lo hi), m)
  | .ref k => (match seqAt m k with
    | some l => some (.ref m.length, m ++ [.lst (cutW l lo hi)])
    | none => none)
  | _ => none
def dSl (d : DE) (lo hi : DO) : DE := fun env m => (d env m).bind fun a m1 => (lo env m1).bind fun l m2 => (hi env m2).bind fun h m3 => lift (slW l h a m3)
theorem VRs.cut {K : PySem.W.Frag} {hot : Option Hot} {r : Nat → Addr} {n : Nat} {H : Hp} {ws : List W} {vs : List V} (h : VRs K hot r n H ws vs) (lo hi : Option Int) : VRs K hot r n H (cutW ws lo hi) (cutV vs lo hi) := by
  unfold cutW cutV
  rw [h.length]
  exact (h.drop _).take _
theorem cut_whole {l : List W} {lo hi : Option Int} (h : HT.sIx l.length 0 lo = 0 ∧ HT.sIx l.length l.length hi = l.length) : cutW l lo hi = l := by
  unfold cutW
  rw [h.1, h.2]
  simp
section
variable {X : Cx} {hot : Option Hot} {x : WX} {e : Expr} {d : DE} {lo hi : DO}
theorem jo_none : JO X hot x none oNo := po_imp po_none fun s H Q ⟨r, m, env, R, E, w⟩ => w r H (Step.refl R)
theorem jo_some (h : JE X hot x e d) : JO X hot x (some e) (oAt d) := po_imp (po_some h) fun s H Q ⟨r, m, env, R, E, w⟩ => ⟨r, m, env, R, E, (Wp.bind w).imp fun u r1 m1 H1 S1 w1 v hv => by
  cases hv with
  | int i => exact ⟨i, rfl, w1 r1 H1 (Step.refl S1.rep)⟩
  | _ => exact w1.elim⟩
/-- the slice of a list, of a tuple -/
def rSl (K : PySem.W.Frag) (hot : Option Hot) : V → Option Int → Option Int → Hp → VK → Prop := fun x lo hi H Q => ∃ r m a, Rep K hot r m H ∧ VR K hot r m.length H a x ∧ Wo K hot r m H (slW lo hi a m) Q
theorem sl_W : L2.SlR X (rSl X.K hot) := by
  intro pins s σ H x v vl vu lo hi sl Q I rx hs pl pu ⟨r, m, a, R, ha, q⟩
  cases ha with
  | @tup ws a vs hsq hv =>
    have q : Wo X.K hot r m H (some (.tup (cutW ws lo hi), m)) Q := q
    refine sl_tupA pins s σ H _ v vl vu lo hi sl Q I rx hs pl pu ⟨a, vs, rfl, hsq, fun hw => ?_, fun _ p hp => Wo.tup q R (hv.cut lo hi) p hp⟩
    rw [← hv.length] at hw
    rw [cut_whole hw] at q
    exact Wo.val q R (.tup hsq hv)
  | @ref k hk =>
    have q : Wo X.K hot r m H (match seqAt m k with
      | some l => some (.ref m.length, m ++ [.lst (cutW l lo hi)])
      | none => none) Q := q
    cases e : seqAt m k with
    | none => rw [e] at q; exact q.elim
    | some l =>
      rw [e] at q
      obtain ⟨_, vs, h1, h2⟩ := R.seq e
      exact sl_list pins s σ H _ v vl vu lo hi sl Q I rx hs pl pu ⟨_, vs, rfl, h1, fun p hp => Wo.lst q R (h2.cut lo hi) p hp⟩
  | _ => exact q.elim
theorem je_sl (h : PE X e (tSl (rSl X.K hot) (tE X.K hot x d) (tOo X.K hot x lo) (tOo X.K hot x hi))) : JE X hot x e (dSl d lo hi) := pe_imp h fun s H Q ⟨r, m, env, R, E, w⟩ =>
  ⟨r, m, env, R, E, (Wp.bind w).imp fun u r1 m1 H1 S1 w1 v hv => ⟨r1, m1, env, S1.rep, E.step S1, (Wp.bind w1).imp fun l r2 m2 H2 S2 w2 => ⟨r2, m2, env, S2.rep, (E.step S1).step S2, (Wp.bind w2).imp fun h r3 m3 H3 S3 w3 => ⟨r3, m3, u, S3.rep, S3.vr (S2.vr hv), Wo.of w3⟩⟩⟩⟩
end

/-! ### repr -/
def showW (m : Mem) (w : W) : Option Str := match toD m deep w with
  | some d => if d.showable = true ∧ d.hasDict = false ∧ d.shown.length ≤ 100000 ∧ d.depth ≤ 30 then some d.shown else none
  | none => none
def reprW : OpN := fun ws m => match ws with
  | [.int i] => if i.natAbs.log2 < 1920 then some (.str (toString i), m) else none
  | [w] => (showW m w).map fun z => (.str z, m)
  | _ => none
theorem show_of {K : PySem.W.Frag} {hot : Option Hot} {r : Nat → Addr} {m : Mem} {H : Hp} {w : W} {v : V} {z : Str} (R : Rep K hot r m H) (hv : VR K hot r m.length H w v) (h : showW m w = some z) :
    ∃ d, Dp K H v d ∧ z = d.shown ∧ d.showable = true ∧ d.hasDict = false ∧ d.shown.length ≤ 100000 ∧ d.depth ≤ 30 := by
  unfold showW at h
  cases e : toD m deep w with
  | none => rw [e] at h; cases h
  | some d =>
    rw [e] at h
    dsimp only at h
    by_cases c : d.showable = true ∧ d.hasDict = false ∧ d.shown.length ≤ 100000 ∧ d.depth ≤ 30
    · rw [if_pos c] at h
      cases h
      exact ⟨d, dp_of R deep _ _ _ e hv, rfl, c⟩
    · rw [if_neg c] at h
      cases h
theorem cb_repr {X : Cx} {hot : Option Hot} (hg : X.A.guards = some []) (hu : X.A.units + 40 < cLine) : CallR X (.builtin "repr") (rOfN X.K hot reprW) := by
  intro pins s σ H xs us Q I rr ⟨r, m, ws, R, hv, q⟩
  unfold reprW at q
  split at q
  · rename_i i
    cases hv with
    | @cons _ _ v _ hw hn =>
      cases hn
      cases hw
      by_cases c : i.natAbs.log2 < 1920
      · rw [if_pos c] at q
        obtain ⟨u, rfl, t, rfl⟩ := rr.one
        exact PySem.P.repr_of_int c ⟨.str _, H, I.tok _, ⟨_, rfl⟩, Wo.val q R (.str _)⟩
      · rw [if_neg c] at q
        exact q.elim
  · rename_i w _
    cases hv with
    | @cons _ _ v _ hw hn =>
      cases hn
      obtain ⟨u, rfl, ru⟩ := rr.one
      cases e : showW m w with
      | none => rw [e] at q; exact q.elim
      | some z =>
        rw [e] at q
        obtain ⟨d, hd, hz, h1, h2, h3, h4⟩ := show_of R hw e
        subst hz
        have fin := Wo.val q R (.str d.shown)
        obtain ⟨as, rd⟩ := Dp.reads I d v u hd ru
        cases hd with
        | non =>
          cases ru
          exact PySem.P.repr_of_none ⟨.str _, H, I.tok _, ⟨_, rfl⟩, fin⟩
        | bl b =>
          cases ru
          refine PySem.P.repr_of_bool ⟨.str _, H, I.tok _, ⟨_, rfl⟩, fin⟩
        | int i =>
          obtain ⟨t, rfl⟩ := ru
          exact PySem.P.repr_of_int (of_decide_eq_true h1) ⟨.str _, H, I.tok _, ⟨_, rfl⟩, fin⟩
        | str x =>
          obtain ⟨t, rfl⟩ := ru
          exact PySem.P.repr_of_str ⟨.str _, H, I.tok _, ⟨_, rfl⟩, fin⟩ (line_le h3)
        | lst hs ha =>
          cases ru
          exact repr_of_reads' rd h1 (PyData.noDict_hsm h2) hg (by omega) (fun _ _ z => z) (fun h' t tk hk => ⟨.str _, H, I.kept (t' := tk) hk, ⟨_, rfl⟩, fin⟩) (line_le h3)
        | tup hs ha =>
          cases ru
          exact repr_of_reads' rd h1 (PyData.noDict_hsm h2) hg (by omega) (fun _ _ z => z) (fun h' t tk hk => ⟨.str _, H, I.kept (t' := tk) hk, ⟨_, rfl⟩, fin⟩) (line_le h3)
  · exact q.elim
end Nw
set_option Elab.async false
set_option linter.all false
set_option maxRecDepth 100000
set_option maxHeartbeats 2000000
namespace Nw
open PySem PySem.Spec PyProof.Rows L2

/-! ### values that bear no exception -/
def coldW (w : W) : Prop := ∀ (K : PySem.W.Frag) (hot : Option Hot) (r : Nat → Addr) (n : Nat) (H : Hp) (v : V), VR K hot r n H w v → VR K none r n H w v
theorem cold_non : coldW .non := fun _ _ _ _ _ _ h => by cases h; exact .non
theorem cold_bl (b : Bool) : coldW (.bl b) := fun _ _ _ _ _ _ h => by cases h; exact .bl b
theorem cold_int (i : Int) : coldW (.int i) := fun _ _ _ _ _ _ h => by cases h; exact .int i
theorem cold_str (x : Str) : coldW (.str x) := fun _ _ _ _ _ _ h => by cases h; exact .str x
theorem cold_ref (k : Nat) : coldW (.ref k) := fun _ _ _ _ _ _ h => by cases h with | ref h => exact .ref h
theorem cold_all {K : PySem.W.Frag} {hot : Option Hot} {r : Nat → Addr} {n : Nat} {H : Hp} : ∀ {l : List W} {vs : List V}, (∀ w, w ∈ l → coldW w) → VRs K hot r n H l vs → VRs K none r n H l vs
  | _, _, _, .nil => .nil
  | _, _, h, .cons a b => .cons (h _ List.mem_cons_self _ _ _ _ _ _ a) (cold_all (fun w hw => h w (List.mem_cons_of_mem _ hw)) b)
theorem cold_tup {l : List W} (h : ∀ w, w ∈ l → coldW w) : coldW (.tup l) := fun _ _ _ _ _ _ q => by
  cases q with
  | tup hs hv => exact .tup hs (cold_all h hv)
mutual
theorem cold_of {K : PySem.W.Frag} {r : Nat → Addr} {n : Nat} {H : Hp} : ∀ {w : W} {v : V}, VR K none r n H w v → coldW w
  | _, _, .non => cold_non
  | _, _, .bl b => cold_bl b
  | _, _, .int i => cold_int i
  | _, _, .str x => cold_str x
  | _, _, .tup _ hv => cold_tup (colds_of hv)
  | _, _, .ref _ => cold_ref _
  | _, _, .fn x => fun _ _ _ _ _ _ h => by cases h; exact .fn x
  | _, _, .exv h => nomatch h
theorem colds_of {K : PySem.W.Frag} {r : Nat → Addr} {n : Nat} {H : Hp} : ∀ {l : List W} {vs : List V}, VRs K none r n H l vs → ∀ w, w ∈ l → coldW w
  | _, _, .nil => fun w hw => absurd hw (by simp)
  | _, _, .cons a b => fun w hw => by
    rcases List.mem_cons.mp hw with e | e
    · rw [e]
      exact cold_of a
    · exact colds_of b w e
end
mutual
theorem VR.heat {K : PySem.W.Frag} {hot : Option Hot} {r : Nat → Addr} {n : Nat} {H : Hp} : ∀ {w : W} {v : V}, VR K none r n H w v → VR K hot r n H w v
  | _, _, .non => .non
  | _, _, .bl b => .bl b
  | _, _, .int i => .int i
  | _, _, .str x => .str x
  | _, _, .tup h hs => .tup h (VRs.heat hs)
  | _, _, .ref h => .ref h
  | _, _, .fn x => .fn x
  | _, _, .exv h => nomatch h
theorem VRs.heat {K : PySem.W.Frag} {hot : Option Hot} {r : Nat → Addr} {n : Nat} {H : Hp} : ∀ {ws : List W} {vs : List V}, VRs K none r n H ws vs → VRs K hot r n H ws vs
  | _, _, .nil => .nil
  | _, _, .cons h hs => .cons (VR.heat h) (VRs.heat hs)
end
def O.els : O → List W
  | .lst l => l
  | .fro l => l
section
variable {K : PySem.W.Frag} {r r' : Nat → Addr} {m ex : Mem} {H H' : Hp} {e : Exn} {cls : Value} {d : Option Addr} {a : Addr} {env : Env} {s : L2.St}
theorem ExR.heat (h : ExR K none r m.length H e cls d) : ExR K (some ⟨a, e, cls, d⟩) r m.length H e cls d := by
  obtain ⟨h1, h2, h3⟩ := h
  refine ⟨h1, h2, fun ne => ?_⟩
  obtain ⟨dd, fs, e1, e2, e3⟩ := h3 ne
  exact ⟨dd, fs, e1, e2, fun i f w hi hw => let ⟨v, q1, q2⟩ := e3 i f w hi hw; ⟨v, q1, q2.heat⟩⟩
theorem Rep.heat (R : Rep K none r m H) (h : ExR K none r m.length H e cls d) : Rep K (some ⟨a, e, cls, d⟩) r m H := by
  refine ⟨fun k o ho => ?_, R.inj, fun h' q => ?_⟩
  · have ob := R.ob k o ho
    cases o with
    | lst ws =>
      obtain ⟨vs, h1, h2⟩ := ob
      exact ⟨vs, h1, h2.heat⟩
    | fro ws =>
      obtain ⟨vs, h1, h2⟩ := ob
      exact ⟨vs, h1, h2.heat⟩
  · cases q
    exact h.heat
theorem ER.heat {hot : Option Hot} (E : ER K none r m.length H env s) : ER K hot r m.length H env s := ⟨E.len, fun i w h => let ⟨v, h1, h2⟩ := E.at_ i w h; ⟨v, h1, h2.heat⟩⟩
theorem Step.cool {hot : Option Hot} (R : Rep K none r m H) (S : Step K hot r m H r' (m ++ ex) H') (hc : ∀ o, o ∈ ex → ∀ w, w ∈ o.els → coldW w) : Step K none r m H r' (m ++ ex) H' := by
  refine ⟨⟨fun k o ho => ?_, S.rep.inj, fun _ z => nomatch z⟩, S.ext, S.le, S.kp⟩
  have cold : ∀ w, w ∈ o.els → coldW w := by
    by_cases hk : k < m.length
    · rw [List.getElem?_append_left hk] at ho
      have ob := R.ob k o ho
      cases o with
      | lst ws =>
        obtain ⟨vs, _, h2⟩ := ob
        exact colds_of h2
      | fro ws =>
        obtain ⟨vs, _, h2⟩ := ob
        exact colds_of h2
    · rw [List.getElem?_append_right (Nat.le_of_not_lt hk)] at ho
      exact hc o (List.mem_of_getElem? ho)
  have ob := S.rep.ob k o ho
  cases o with
  | lst ws =>
    obtain ⟨vs, h1, h2⟩ := ob
    exact ⟨vs, h1, cold_all cold h2⟩
  | fro ws =>
    obtain ⟨vs, h1, h2⟩ := ob
    exact ⟨vs, h1, cold_all cold h2⟩
end

/-! ### try: .. except RingError as e: .. -/
def forgetF (i : Nat) : Fl → Fl
  | .nx env => .nx (env.set i none)
  | .bk env => .bk (env.set i none)
  | .ct env => .ct (env.set i none)
  | .rt w => .rt w
def coldE (env env2 : Env) : Prop := ∀ (j : Nat) (w : W), env2[j]? = some (some w) → env[j]? = some (some w) ∨ coldW w
def coldF (env : Env) : Fl → Prop
  | .nx env2 => coldE env env2
  | .bk env2 => coldE env env2
  | .ct env2 => coldE env env2
  | .rt w => coldW w
/-- the suite ts, its exception e in the slot i, gives f and lays ex -/
structure SuiteOk (ts : DS) (i : Nat) (e : Exn) (env : Env) (m : Mem) (f : Fl) (ex : Mem) : Prop where
  run : ∃ f', ts (env.set i (some (.exv e.cls e.args))) m = .fl f' (m ++ ex) ∧ forgetF i f' = f
  exs : ∀ o, o ∈ ex → ∀ w, w ∈ o.els → coldW w
  cold : coldF env f
def sTry (tb : DS) (g : Exn → Env → Option (Fl × Mem)) : DS := fun env m => match tb env m with
  | .exc e env' m' => (match g e env' with
    | some (f, ex) => .fl f (m' ++ ex)
    | none => .bad)
  | o => o
theorem pss_ex {X : Cx} {α : Type} {b : List Stmt} {t : α → TS} (h : ∀ e, PSs X b (t e)) : PSs X b (fun D σ H => ∃ e, t e D σ H) := ⟨fun pins s σ H D I ⟨e, q⟩ => (h e).run pins s σ H D I q⟩
theorem js_try {X : Cx} {W0 : WX} {pl ini : List Str} {n : Str} {i : Nat} {body suite : List Stmt} {b₀ : Stmt} {np pos pos' : Pos} {tb ts : DS} {g : Exn → Env → Option (Fl × Mem)}
    (hs : X.stack = X.env :: X.outer) (hf : X.env.frame = some X.env.locals) (hN : X.N.Nodup) (hi : X.N[i]? = some n) (hln : X.env.kindOf n = some .local) (T : Errs X.K X.mg pl ini) (hre : ("RingError" : Str) ∈ pl ++ ini) (hgl : Gl X "RingError") (tk : Takes X W0)
    (hb : ∀ (W : WX) (pn : List (Addr × Obj)) (xe : Value → Shared → Prop), Takes (X.tr pn xe) W → PassesOwn (model X.prog X.w) X.A X.env xe → JB (X.tr pn xe) none W body tb)
    (hsu : ∀ (a : Addr) (oe : Obj) (cls : Value) (d : Option Addr) (pn : List (Addr × Obj)) (e : Exn), HotIn (X.suite a ((a, oe) :: pn)) (some ⟨a, e, cls, d⟩) → JB (X.suite a ((a, oe) :: pn)) (some ⟨a, e, cls, d⟩) noX (b₀ :: suite) ts)
    (hg : ∀ e env m f ex, g e env = some (f, ex) → e.cls ∈ pl ++ ini ∧ SuiteOk ts i e env m f ex) :
    JS X none W0 (.Try body [.ExceptHandler (some (.Name "RingError" np)) (some n) (b₀ :: suite) pos'] [] [] pos) (sTry tb g) := by
  refine ps_imp (ps_try_as (c := .ref (He.ga X.K "RingError")) (tb := fun W => tS X.K none W tb) (ts := fun a cls d D σ H => ∃ e, tS X.K (some ⟨a, e, cls, d⟩) noX ts D σ H) hs hf hN hi hln ⟨hgl, by decide, .inl (T.glo _ hre)⟩ tk hb
    (fun a oe cls d pn hz hfs => pss_ex fun e => hsu a oe cls d pn e fun h q => by cases q; exact ⟨oe, List.mem_cons_self, hz, hfs⟩)) fun D s H ⟨r, m, env, R, E, w⟩ => ⟨r, m, env, R, E, ?_⟩
  unfold sTry at w
  cases q : tb env m with
  | bad => rw [q] at w; exact w.elim
  | fl f m' => rw [q] at w; cases f <;> exact w
  | exc e env' m' =>
    rw [q] at w
    dsimp only at w
    cases qg : g e env' with
    | none => rw [qg] at w; exact w.elim
    | some fx =>
      obtain ⟨f, ex⟩ := fx
      rw [qg] at w
      dsimp only at w
      obtain ⟨hcls, ⟨f', hrun, hfg⟩, hexs, hcold⟩ := hg e env' m' f ex qg
      intro r' H' cls d s' S E' hx
      refine ⟨true, ?_, fun _ a ha => ⟨e, r', m', env'.set i (some (.exv e.cls e.args)), S.rep.heat hx, (E'.heat).set (.exv (h := ⟨a, e, cls, d⟩) rfl) i, ?_⟩, fun z => nomatch z⟩
      · rw [hx.1]
        exact T.re hcls
      · rw [hrun]
        have fin : ∀ {r2 : Nat → Addr} {H2 : Hp}, Step X.K (some ⟨a, e, cls, d⟩) r' m' H' r2 (m' ++ ex) H2 → Step X.K none r m H r2 (m' ++ ex) H2 := fun S2 => S.trans (Step.cool S.rep S2 hexs)
        have fe : ∀ {r2 : Nat → Addr} {H2 : Hp} {s2 : L2.St} {env2 : Env}, Step X.K (some ⟨a, e, cls, d⟩) r' m' H' r2 (m' ++ ex) H2 → coldE env' (env2.set i none) → ER X.K (some ⟨a, e, cls, d⟩) r2 (m' ++ ex).length H2 env2 s2 → ER X.K none r2 (m' ++ ex).length H2 (env2.set i none) (s2.set i none) := fun {r2 H2 s2 env2} S2 hc E2 => by
          have E3 := E2.unset i
          refine ⟨E3.len, fun j w hj => ?_⟩
          obtain ⟨v, h1, h2⟩ := E3.at_ j w hj
          refine ⟨v, h1, ?_⟩
          rcases hc j w hj with ho | ho
          · obtain ⟨v0, _, h4⟩ := E'.at_ j w ho
            exact cold_of h4 _ _ _ _ _ _ h2
          · exact ho _ _ _ _ _ _ h2
        cases f' with
        | nx env2 =>
          cases hfg
          exact fun r2 H2 s2 S2 E2 => w r2 H2 _ (fin S2) (fe S2 hcold E2)
        | bk env2 =>
          cases hfg
          exact fun r2 H2 s2 S2 E2 => w r2 H2 _ (fin S2) (fe S2 hcold E2)
        | ct env2 =>
          cases hfg
          exact fun r2 H2 s2 S2 E2 => w r2 H2 _ (fin S2) (fe S2 hcold E2)
        | rt u =>
          cases hfg
          exact fun r2 H2 v S2 hv => w r2 H2 v (fin S2) (hcold _ _ _ _ _ _ hv)

/-! ### e.f, e the exception -/
def dAt (pl ini : List Str) (f : Str) (d : DE) : DE := fun env m => (d env m).bind fun w m1 => match w with
  | .exv k as => if k ∈ pl ++ ini ∧ f ∈ exF k ∧ k ∈ ini then (match as[(exF k).idxOf f]? with
    | some w => .ok w m1
    | none => .bad) else .bad
  | _ => .bad
theorem je_at {X : Cx} {hot : Option Hot} {x : WX} {e : Expr} {d : DE} {pos : Pos} {pl ini : List Str} {f : Str} (T : Errs X.K X.mg pl ini) (hp : HotIn X hot) (he : JE X hot x e d) (hb : attributeBase e f X.env (eval e X.env) = eval e X.env := by rfl) :
    JE X hot x (.Attribute e f pos) (dAt pl ini f d) := by
  refine ⟨fun pins s σ H Q I ⟨r, m, env, R, E, w⟩ => ?_⟩
  refine attr_of hb (thn (he.run pins s σ H _ I ⟨r, m, env, R, E, (Wp.bind w).imp fun u r1 m1 H1 S1 w1 v hv => show ∃ r m u, Rep X.K hot r m H1 ∧ VR X.K hot r m.length H1 u v ∧ Wp X.K hot x σ r m H1 (match u with
    | .exv k as => if k ∈ pl ++ ini ∧ f ∈ exF k ∧ k ∈ ini then (match as[(exF k).idxOf f]? with
      | some w => .ok w m
      | none => .bad) else .bad
    | _ => .bad) (fun w r' m' H' => ∀ v, VR X.K hot r' m'.length H' w v → Q v H') from ⟨r1, m1, u, S1.rep, hv, w1⟩⟩) fun u s1 ⟨v, H1, I1, rv, r1, m1, w1, R1, hv, q⟩ => ?_)
  cases w1 with
  | exv k as =>
    obtain ⟨h, h1, h2, h3, h4, h5, h6⟩ := exv_of R1 hv
    subst h1 h2
    cases (show u = Value.ref h.a from rv)
    dsimp only at q
    by_cases c : k ∈ pl ++ ini ∧ f ∈ exF k ∧ k ∈ ini
    · rw [if_pos c] at q
      cases qa : as[(exF k).idxOf f]? with
      | none => rw [qa] at q; exact q.elim
      | some w =>
        rw [qa] at q
        obtain ⟨oe, hm, hz, vs, hd⟩ := hp h rfl
        obtain ⟨ha, _⟩ := I1.pin (h.a, oe) (List.mem_append_left _ hm)
        obtain ⟨x1, x2, x3⟩ := R1.hx h rfl
        have ne : h.e.args ≠ [] := fun z => by
          rw [← h4] at z
          rw [z] at qa
          cases qa
        obtain ⟨dd, fs, e1, e2, e3⟩ := x3 ne
        have hif : (exF h.e.cls)[(exF k).idxOf f]? = some f := by
          rw [← h3, List.getElem?_eq_getElem (List.idxOf_lt_length_of_mem c.2.1)]
          simp
        obtain ⟨fv, q1, q2⟩ := e3 _ f w hif (by rw [← h4]; exact qa)
        obtain ⟨mA, hns, hr⟩ := (show ObjOk X.prog X.w H1 s1.heap dd (.xd fs) from I1.hok dd _ e2)
        obtain ⟨od, ho, hl⟩ := lookIn_ns hns
        obtain ⟨u, hu, ru⟩ := RelO.some_of (v := fv) (o := mA f) (by rw [← q1]; exact hr f)
        have J : PySem.W.InstAt s1.heap h.a oe (He.ga X.K k) (some od) := ⟨ha, hz.1.trans h5, by unfold PySem.W.notCls; rw [hd], by rw [hz.2, e1]; exact ho⟩
        have TT := T.xf c.1
        exact HandSPX.exc_get I1.kIn J TT.ga TT.gg TT.exC (PySem.W.findObj_own TT.hdC ((T.init c.2.2).2.1 f c.2.1) rfl (by rw [hl, hu])) (handed_of ru) ⟨fv, H1, I1.tok _, ru, q r1 H1 (Step.refl R1) _ q2⟩
    · rw [if_neg c] at q
      exact q.elim
  | _ => exact q.elim
end Nw
set_option Elab.async false
set_option linter.all false
set_option maxRecDepth 100000
set_option maxHeartbeats 2000000
namespace Nw
open PySem PySem.Spec PyProof.Rows L2

theorem bt_isinstance : bootBuiltins "isinstance" = some (.builtin "isinstance") := by decide +kernel
theorem bt_len : bootBuiltins "len" = some (.builtin "len") := by decide +kernel
theorem bt_repr : bootBuiltins "repr" = some (.builtin "repr") := by decide +kernel
theorem bt_max : bootBuiltins "max" = some (.builtin "max") := by decide +kernel
theorem bt_min : bootBuiltins "min" = some (.builtin "min") := by decide +kernel
theorem bt_all : bootBuiltins "all" = some (.builtin "all") := by decide +kernel
theorem bt_sum : bootBuiltins "sum" = some (.builtin "sum") := by decide +kernel
theorem bt_sorted : bootBuiltins "sorted" = some (.builtin "sorted") := by decide +kernel
theorem bt_int : bootBuiltins "int" = some (.type "int") := by decide +kernel
theorem bt_bool : bootBuiltins "bool" = some (.type "bool") := by decide +kernel
theorem bt_str : bootBuiltins "str" = some (.type "str") := by decide +kernel
theorem bt_tuple : bootBuiltins "tuple" = some (.type "tuple") := by decide +kernel
theorem bt_list : bootBuiltins "list" = some (.type "list") := by decide +kernel
theorem bt_dict : bootBuiltins "dict" = some (.type "dict") := by decide +kernel
theorem bt_set : bootBuiltins "set" = some (.type "set") := by decide +kernel
theorem bt_ValueError : bootBuiltins "ValueError" = some (.type "ValueError") := by decide +kernel
section
variable {hot : Option Hot} {k : Nat} {A : Around}
theorem RoomN.u64 (r : RoomN hot k A) : A.units + 64 < cLine := by have := r.un; omega
theorem RoomN.u65 (r : RoomN hot k A) : A.units + 65 < cLine := by have := r.un; omega
theorem RoomN.u40 (r : RoomN hot k A) : A.units + 40 < cLine := by have := r.un; omega
theorem RoomN.u0 (r : RoomN hot k A) : A.units < cLine := by have := r.un; omega
end

/-! ### the call of a function out of a list: [f, g][i](..) -/
def dCallV (n : Nat) (t : List (Str × Den)) (f : DE) (a : DA) : DE := fun env m => (f env m).bind fun w m1 => match w with
  | .fn x => (match t.lookup x with
    | some den => (a env m1).bind fun ws m2 => if ws.length = n then den ws m2 else .bad
    | none => .bad)
  | _ => .bad
/-- the defs of such a list -/
inductive Dfs (P : Program) (w : World) (K : PySem.W.Frag) (mg : Str → Option Value) (base : Heap) (hot : Option Hot) (A : Around) (n : Nat) : List (Str × Den) → Prop
  | nil : Dfs P w K mg base hot A n []
  | cons {hk : Bool} {k : Nat} {x : Str} {den : Den} {t : List (Str × Den)} : Df P w K mg base hk k x n den → (hk = false → hot = none) → RoomN hot k A → Dfs P w K mg base hot A n t → Dfs P w K mg base hot A n ((x, den) :: t)
theorem Dfs.get {P : Program} {w : World} {K : PySem.W.Frag} {mg : Str → Option Value} {base : Heap} {hot : Option Hot} {A : Around} {n : Nat} {x : Str} {den : Den} : ∀ {t : List (Str × Den)}, Dfs P w K mg base hot A n t → t.lookup x = some den → ∃ hk k, Df P w K mg base hk k x n den ∧ (hk = false → hot = none) ∧ RoomN hot k A
  | _, .nil, h => by cases h
  | _, .cons (x := y) d hh hr r, h => by
    unfold List.lookup at h
    by_cases e : x = y
    · subst e
      rw [beq_self_eq_true] at h
      cases h
      exact ⟨_, _, d, hh, hr⟩
    · rw [beq_eq_false_iff_ne.mpr e] at h
      exact r.get h
theorem je_callV {X : Cx} {n : Nat} {hot : Option Hot} {W0 : WX} {fe e : Expr} {es : List Expr} {df : DE} {ds : DA} {pos : Pos} {tb : List (Str × Den)} (T : Dfs X.prog X.w X.K X.mg X.base hot X.A n tb) (hp : HotIn X hot) (tk : Takes X W0) (hf : JE X hot W0 fe df) (ha : JA X hot W0 (e :: es) ds)
    (he : eval (.Call fe (e :: es) [] pos) X.env = (do callWith pos (← eval fe X.env) [] (backTo pos (starEach (e :: es) X.env)) (backToKw pos (keywordEach [] X.env))) := by rfl)
    (hst : starEach (e :: es) X.env = (false, eval e X.env) :: starEach es X.env := by rfl) (hpl : (backTo pos (starEach es X.env)).any (·.1) = false := by rfl) :
    JE X hot W0 (.Call fe (e :: es) [] pos) (dCallV n tb df ds) := by
  refine ⟨fun pins s σ H Q I ⟨r, m, env, R, E, w⟩ => ?_⟩
  refine Call_ (thn (hf.run pins s σ H _ I ⟨r, m, env, R, E, (Wp.bind w).imp fun u r1 m1 H1 S1 w1 v hv => show ∃ x den r m, v = .ref (He.ga X.K x) ∧ tb.lookup x = some den ∧ Rep X.K hot r m H1 ∧ ER X.K hot r m.length H1 env σ ∧ Wp X.K hot W0 σ r m H1 ((ds env m).bind fun ws m2 => if ws.length = n then den ws m2 else .bad) (fun w r' m' H' => ∀ v, VR X.K hot r' m'.length H' w v → Q v H') from ?_⟩) fun fv s1 ⟨v, H1, I1, rv, x, den, r1, m1, ev, hl, R1, E1, q⟩ => ?_) he
  · cases hv with
    | fn x =>
      dsimp only at w1
      cases hl : tb.lookup x with
      | none => rw [hl] at w1; exact w1.elim
      | some den =>
        rw [hl] at w1
        exact ⟨x, den, r1, m1, rfl, hl, S1.rep, E.step S1, w1⟩
    | _ => exact w1.elim
  · subst ev
    cases (show fv = Value.ref (He.ga X.K x) from rv)
    obtain ⟨hk, k, D, hh, hr⟩ := T.get hl
    refine PySem.W.callWith_K (h₀ := X.base) I.ok.mod.kin D.kp (thn (ha.run pos pins s1 σ H1 _ I1 ⟨r1, m1, env, R1, E1, (Wp.bind q).imp fun us r2 m2 H2 S2 w2 vs hv => show ∃ r m ws, Rep X.K hot r m H2 ∧ VRs X.K hot r m.length H2 ws vs ∧ ws.length = n ∧ Wp X.K hot W0 σ r m H2 (den ws m) (fun w r' m' H' => ∀ v, VR X.K hot r' m'.length H' w v → Q v H') from ?_⟩)
      fun us s2 ⟨vs, H2, I2, rr, r2, m2, ws, R2, hv2, hl2, q2⟩ => ⟨I2.kIn, run_fnN D hh hr hp tk I2 rr R2 hv2 hl2 q2⟩) hst hpl
    by_cases c : us.length = n
    · rw [if_pos c] at w2
      exact ⟨r2, m2, us, S2.rep, hv, c, w2⟩
    · rw [if_neg c] at w2
      exact w2.elim

/-! ### the head's facts -/
def obsN (fx : PySem.W.Frag → Bool) (fn : List He.DefD) (K : PySem.W.Frag) : He.AlD := (fx K && fn.all fun d => d.ok K, fn.map fun d => He.fnW K d.at_)
def SaysN (fx : PySem.W.Frag → Bool) (fn : List He.DefD) (K : PySem.W.Frag) : Prop := obsN fx fn K = He.valD fn
def obsNG (n : Nat) (fx : PySem.W.Frag → Bool) (fn : List He.DefD) (g : Addr → Option Obj) : He.AlD := obsN fx fn (He.frG g (He.asD g n))
def hookN (n : Nat) (fx : PySem.W.Frag → Bool) (fn : List He.DefD) : PySem.W.Hook where
  α := He.AlD
  obs := fun s => obsNG n fx fn s.heap.get?
  val := fun _ => He.valD fn
  says := fun _ h => ∃ K : PySem.W.Frag, K.In h ∧ SaysN fx fn K
  of := fun _ _ e => ⟨_, He.frG_in, e⟩
  keeps := fun _ _ _ ⟨K, hK, c⟩ k => ⟨K, PySem.W.Frag.In.keeps hK k, c⟩
theorem obsNG_eq {n : Nat} {fx : PySem.W.Frag → Bool} {fn : List He.DefD} {g : Addr → Option Obj} {s : Shared} (h : ∀ a, g a = s.heap.get? a) : obsNG n fx fn g = (hookN n fx fn).obs s := by
  have e : g = s.heap.get? := funext h
  rw [e]
  rfl
section
variable {fx : PySem.W.Frag → Bool} {fn : List He.DefD} {K : PySem.W.Frag}
theorem SaysN.fact (c : SaysN fx fn K) : fx K = true := (Bool.and_eq_true_iff.mp (show (fx K && fn.all fun d => d.ok K) = true from congrArg (fun z : He.AlD => z.1) c)).1
theorem SaysN.def_ (c : SaysN fx fn K) (i : Nat) {d : He.DefD} (h : fn[i]? = some d := by rfl) : ∃ fd, FunD K d.name d.qual d.params d.body d.scope (d.dvs K) (d.kws K) (He.fAd K d.at_) fd := by
  have c2 := (Bool.and_eq_true_iff.mp (show (fx K && fn.all fun d => d.ok K) = true from congrArg (fun z : He.AlD => z.1) c)).2
  have e : fn.map (fun d => He.fnW K d.at_) = fn.map He.DefD.val := congrArg (fun z : He.AlD => z.2) c
  have e2 : (fn.map fun d => He.fnW K d.at_)[i]? = (fn.map He.DefD.val)[i]? := by rw [e]
  rw [List.getElem?_map, List.getElem?_map, h] at e2
  exact He.DefD.funD (Option.some.inj e2) (List.all_eq_true.mp c2 d (List.mem_of_getElem? h))
end
theorem OkF.imp {P : Program} {w : World} {K : PySem.W.Frag} {mg : Str → Option Value} {base : Heap} {hk : Bool} {k : Nat} {x : Str} {fd : FuncData} {ps : List Str} {den den' : Den} (F : OkF P w K mg base hk k x fd ps den) (h : ∀ ws m, den' ws m ≠ .bad → den ws m = den' ws m) : OkF P w K mg base hk k x fd ps den' :=
  ⟨fun hot pn A outer s H args us vs ws r m Q E h1 h2 h3 h4 h5 h6 h7 h8 h9 q => F.run hot pn A outer s H args us vs ws r m Q E h1 h2 h3 h4 h5 h6 h7 h8 h9 (by
    rw [h ws m fun z => by
      rw [z] at q
      exact q.elim]
    exact q)⟩
/-- a def of the text -/
abbrev FunP (K : PySem.W.Frag) (x : Str) (st : Stmt) (fd : FuncData) : Prop := FunD K x x (defArgs st) (defBody st) (defScope st) [] [] (He.ga K x) fd
theorem df_of {P : Program} {w : World} {K : PySem.W.Frag} {mg : Str → Option Value} {base : Heap} {hk : Bool} {k n : Nat} {x : Str} {st : Stmt} {fd : FuncData} {ps : List Str} {den : Den} (F : FunP K x st fd) (hg : mg x = some (.ref (He.ga K x))) (hn : ps.length = n) (ok : OkF P w K mg base hk k x fd ps den)
    (h : ∀ (kV doc pm : Value) (an : Option Addr) (cdv ct : Value) (us : List Value), us.length = ps.length → bindArgs (PySem.W.fnOf x x (defArgs st) (defBody st) (defScope st) .none kV doc pm an cdv ct) ⟨us, []⟩ = pure (ps.zip us)) : Df P w K mg base hk k x n den :=
  ⟨⟨fd, ps, hn, ok, FunD.bindsN F h⟩, hg, F.kp⟩
end Nw
set_option Elab.async false
set_option linter.all false
set_option maxRecDepth 100000
set_option maxHeartbeats 2000000
namespace Nw
open PySem PySem.Spec PyProof.Rows L2

/-! ### the reckoner's equations -/
section
variable {α β : Type} {a b : DE} {as : DA} {env : Env} {m : Mem} {f : Op2} {g : Op1} {h : OpN} {i : Nat} {w : W}
@[simp] theorem s_bind_ok {x : α} {k : α → Mem → Out β} : (Out.ok x m).bind k = k x m := (rfl)
@[simp] theorem s_bind_exc {e : Exn} {k : α → Mem → Out β} : (Out.exc e m : Out α).bind k = .exc e m := (rfl)
@[simp] theorem s_bind_bad {k : α → Mem → Out β} : (Out.bad : Out α).bind k = .bad := (rfl)
def varR (o : Option (Option W)) (m : Mem) : Out W := match o with
  | some (some w) => .ok w m
  | _ => .bad
@[simp] theorem s_var : dVar i env m = varR env[i]? m := by
  unfold dVar varR
  cases env[i]? with
  | none => rfl
  | some o => cases o <;> rfl
@[simp] theorem s_varR : varR (some (some w)) m = .ok w m := (rfl)
@[simp] theorem s_c : dC w env m = .ok w m := (rfl)
@[simp] theorem s_op : dOp f a b env m = (a env m).bind fun x m1 => (b env m1).bind fun y m2 => lift (f x y m2) := (rfl)
@[simp] theorem s_un : dUn g a env m = (a env m).bind fun x m1 => lift (g x m1) := (rfl)
@[simp] theorem s_nil : dNil env m = .ok [] m := (rfl)
@[simp] theorem s_cons : dCons a as env m = (a env m).bind fun x m1 => (as env m1).bind fun xs m2 => .ok (x :: xs) m2 := (rfl)
@[simp] theorem s_cb : dCB h as env m = (as env m).bind fun xs m1 => lift (h xs m1) := (rfl)
@[simp] theorem s_lift : lift (some (w, m)) = .ok w m := (rfl)
@[simp] theorem s_liftN : lift none = .bad := (rfl)
@[simp] theorem s_liftB {c : Bool} : liftB (some c) m = .ok c m := (rfl)
@[simp] theorem s_blW {c : Bool} : blW (.bl c) = some c := (rfl)
@[simp] theorem s_tru : dTru a env m = (a env m).bind fun w m1 => liftB (truW w m1) m1 := (rfl)
@[simp] theorem s_tst : dTst a env m = (a env m).bind fun w m1 => liftB (blW w) m1 := (rfl)
@[simp] theorem s_and {t u : DT} : dAnd t u env m = (t env m).bind fun c m1 => if c = true then u env m1 else .ok false m1 := (rfl)
@[simp] theorem s_or {t u : DT} : dOr t u env m = (t env m).bind fun c m1 => if c = true then .ok true m1 else u env m1 := (rfl)
@[simp] theorem s_not {t : DT} : dNot t env m = (t env m).bind fun c m1 => .ok (!c) m1 := (rfl)
@[simp] theorem s_if {t : DT} : dIf t a b env m = (t env m).bind fun c m1 => if c = true then a env m1 else b env m1 := (rfl)
@[simp] theorem s_andV : dAndV a b env m = (a env m).bind fun w m1 => (liftB (truW w m1) m1).bind fun c m2 => if c = true then b env m2 else .ok w m2 := (rfl)
@[simp] theorem s_orV : dOrV a b env m = (a env m).bind fun w m1 => (liftB (truW w m1) m1).bind fun c m2 => if c = true then .ok w m2 else b env m2 := (rfl)
@[simp] theorem s_notV : dNotV a env m = (a env m).bind fun w m1 => (liftB (truW w m1) m1).bind fun c m2 => .ok (.bl (!c)) m2 := (rfl)
@[simp] theorem s_chn {f2 : Op2} {c : DE} : dChn f f2 a b c env m = (a env m).bind fun x m1 => (b env m1).bind fun y m2 => (lift (f x y m2)).bind fun z m3 => (liftB (blW z) m3).bind fun k m4 => if k = true then (c env m4).bind fun w m5 => lift (f2 y w m5) else .ok (.bl false) m4 := (rfl)
@[simp] theorem s_yes : dYes env m = .ok true m := (rfl)
@[simp] theorem s_call {n : Nat} {d : Den} : dCall n d as env m = (as env m).bind fun ws m1 => if ws.length = n then d ws m1 else .bad := (rfl)
@[simp] theorem s_call0 {d : Den} : dCall0 d env m = d [] m := (rfl)
end
section
variable {env : Env} {m : Mem} {d : DE} {i j : Nat} {w : W}
@[simp] theorem t_bl {b : Bool} : truW (.bl b) m = some b := (rfl)
@[simp] theorem t_non : truW .non m = some false := (rfl)
@[simp] theorem t_int {k : Int} : truW (.int k) m = some (k != 0) := (rfl)
@[simp] theorem s_toS_ok {α : Type} {x : α} {k : α → Mem → Ou} : toS env (Out.ok x m) k = k x m := (rfl)
@[simp] theorem s_toS_exc {α : Type} {e : Exn} {k : α → Mem → Ou} : toS env (Out.exc e m : Out α) k = .exc e env m := (rfl)
@[simp] theorem s_toS_bad {α : Type} {k : α → Mem → Ou} : toS env (Out.bad : Out α) k = .bad := (rfl)
@[simp] theorem s_then_nx {k : Env → Mem → Ou} : thenS (.fl (.nx env) m) k = k env m := (rfl)
@[simp] theorem s_then_rt {k : Env → Mem → Ou} : thenS (.fl (.rt w) m) k = .fl (.rt w) m := (rfl)
@[simp] theorem s_then_bk {k : Env → Mem → Ou} : thenS (.fl (.bk env) m) k = .fl (.bk env) m := (rfl)
@[simp] theorem s_then_ct {k : Env → Mem → Ou} : thenS (.fl (.ct env) m) k = .fl (.ct env) m := (rfl)
@[simp] theorem s_then_exc {e : Exn} {k : Env → Mem → Ou} : thenS (.exc e env m) k = .exc e env m := (rfl)
@[simp] theorem s_then_bad {k : Env → Mem → Ou} : thenS .bad k = .bad := (rfl)
@[simp] theorem s_next : sNext env m = .fl (.nx env) m := (rfl)
@[simp] theorem s_break : sBreak env m = .fl (.bk env) m := (rfl)
@[simp] theorem s_cont : sCont env m = .fl (.ct env) m := (rfl)
@[simp] theorem s_seq {u v : DS} : sSeq u v env m = thenS (u env m) v := (rfl)
@[simp] theorem s_expr : sExpr d env m = toS env (d env m) fun _ m1 => .fl (.nx env) m1 := (rfl)
@[simp] theorem s_ret : sRet d env m = toS env (d env m) fun w m1 => .fl (.rt w) m1 := (rfl)
@[simp] theorem s_retN : sRetN env m = .fl (.rt .non) m := (rfl)
@[simp] theorem s_sif {t : DT} {u v : DS} : sIf t u v env m = toS env (t env m) fun c m1 => if c = true then u env m1 else v env m1 := (rfl)
@[simp] theorem s_set {g : DG} : sSet d g env m = toS env (d env m) fun w m1 => toS env (g w env m1) fun env2 m2 => .fl (.nx env2) m2 := (rfl)
@[simp] theorem s_gnam : gNam i w env m = .ok (env.set i (some w)) m := (rfl)
@[simp] theorem s_gnl : gNl [] env m = .ok env m := (rfl)
theorem s_gcn {g : DG} {gs : DGs} {l : List W} {env1 env2 : Env} {m1 m2 : Mem} (h : g w env m = .ok env1 m1) (h2 : gs l env1 m1 = .ok env2 m2) : gCn g gs (w :: l) env m = .ok env2 m2 := by
  show (match g w env m with
    | .ok env1 m1 => (match gs l env1 m1 with
      | .ok env2 m2 => Out.ok env2 m2
      | _ => Out.bad)
    | _ => Out.bad) = _
  rw [h]
  dsimp only
  rw [h2]
@[simp] theorem s_gcn1 {gs : DGs} {l : List W} : gCn (gNam i) gs (w :: l) env m = (match gs l (env.set i (some w)) m with
  | .ok e2 m2 => .ok e2 m2
  | _ => .bad) := (rfl)
@[simp] theorem s_gtp {n : Nat} {g : DGs} {l : List W} : gTp n g (.tup l) env m = if l.length = n then g l env m else .bad := (rfl)
@[simp] theorem s_par {as : DA} : sPar i j as env m = toS env (as env m) fun ws m1 => match ws with
  | [v, w] => .fl (.nx ((env.set i (some v)).set j (some w))) m1
  | _ => .bad := (rfl)
def augR (o : Option (Option W)) (env : Env) (i : Nat) (f : Op2) (r : Out W) : Ou := match o with
  | some (some a) => toS env r fun b m1 => toS env (lift (f a b m1)) fun w m2 => .fl (.nx (env.set i (some w))) m2
  | _ => .bad
@[simp] theorem s_aug {f : Op2} : sAug i f d env m = augR env[i]? env i f (d env m) := by
  unfold sAug augR
  cases env[i]? with
  | none => rfl
  | some o => cases o <;> rfl
@[simp] theorem s_augR {f : Op2} {r : Out W} : augR (some (some w)) env i f r = toS env r fun b m1 => toS env (lift (f w b m1)) fun w m2 => .fl (.nx (env.set i (some w))) m2 := (rfl)
@[simp] theorem s_raise0 {c : Str} : sRaise0 c env m = .exc ⟨c, []⟩ env m := (rfl)
/-- what a def hands back -/
def runR : Ou → Out W
  | .fl (.rt w) m' => .ok w m'
  | .fl (.nx _) m' => .ok .non m'
  | .exc e _ m' => .exc e m'
  | _ => .bad
theorem s_run {n : Nat} {u : DS} {ws : List W} : runD n u ws m = runR (u (ws.map some ++ List.replicate (n - ws.length) none) m) := by
  unfold runD runR
  cases u (ws.map some ++ List.replicate (n - ws.length) none) m with
  | fl f m' => cases f <;> rfl
  | exc e env m' => rfl
  | bad => rfl
@[simp] theorem s_run_rt : runR (.fl (.rt w) m) = .ok w m := (rfl)
@[simp] theorem s_run_nx : runR (.fl (.nx env) m) = .ok .non m := (rfl)
@[simp] theorem s_run_exc {e : Exn} : runR (.exc e env m) = .exc e m := (rfl)
@[simp] theorem s_run_bad : runR .bad = .bad := (rfl)
def tryR (o : Ou) (g : Exn → Env → Option (Fl × Mem)) : Ou := match o with
  | .exc e env' m' => (match g e env' with
    | some (f, ex) => .fl f (m' ++ ex)
    | none => .bad)
  | o => o
@[simp] theorem s_try {tb : DS} {g : Exn → Env → Option (Fl × Mem)} : sTry tb g env m = tryR (tb env m) g := (rfl)
@[simp] theorem s_tryR_fl {f : Fl} {g : Exn → Env → Option (Fl × Mem)} : tryR (.fl f m) g = .fl f m := (rfl)
@[simp] theorem s_tryR_exc {e : Exn} {g : Exn → Env → Option (Fl × Mem)} : tryR (.exc e env m) g = (match g e env with
    | some (f, ex) => .fl f (m ++ ex)
    | none => .bad) := (rfl)
end
/-! ### operations on ints -/
section
variable {i j : Int} {m : Mem}
@[simp] theorem o_add : addW (.int i) (.int j) m = some (.int (i + j), m) := (rfl)
@[simp] theorem o_sub : subW (.int i) (.int j) m = some (.int (i - j), m) := (rfl)
@[simp] theorem o_mul : mulW (.int i) (.int j) m = if (-big < i ∧ i < big) ∨ (-big < j ∧ j < big) then some (.int (i * j), m) else none := (rfl)
@[simp] theorem o_mod : modW (.int i) (.int j) m = if 0 < j then some (.int (i % j), m) else none := by
  unfold modW int2
  by_cases h : 0 < j
  · simp [h]
  · simp [h]
@[simp] theorem o_fdiv : fdivW (.int i) (.int j) m = if 0 < j ∧ j < 1073741824 then some (.int (i / j), m) else none := by
  unfold fdivW int2
  by_cases h : 0 < j ∧ j < 1073741824
  · simp [h]
  · simp [h]
@[simp] theorem o_neg : negW (.int i) m = some (.int (-i), m) := (rfl)
@[simp] theorem o_lt : ltW (.int i) (.int j) m = some (.bl (decide (i < j)), m) := (rfl)
@[simp] theorem o_le : leW (.int i) (.int j) m = some (.bl (decide (i ≤ j)), m) := (rfl)
@[simp] theorem o_ge : geW (.int i) (.int j) m = some (.bl (decide (j ≤ i)), m) := (rfl)
@[simp] theorem o_eq : eqW (.int i) (.int j) m = some (.bl (decide (i = j)), m) := (rfl)
@[simp] theorem o_ne : neW (.int i) (.int j) m = some (.bl (!decide (i = j)), m) := (rfl)
@[simp] theorem o_max2 : max2W [.int i, .int j] m = some (.int (if j > i then j else i), m) := (rfl)
@[simp] theorem o_min2 : min2W [.int i, .int j] m = some (.int (if j < i then j else i), m) := (rfl)
@[simp] theorem o_int : intW [.int i] m = some (.int i, m) := (rfl)
@[simp] theorem o_intB {b : Bool} : intW [.bl b] m = some (.int (if b then 1 else 0), m) := (rfl)
theorem str_eqv {x y : Str} : (x == y) = decide (x = y) := by
  by_cases h : x = y
  · simp [h]
  · simp [h]
@[simp] theorem o_eqS {x y : Str} : eqW (.str x) (.str y) m = if SeqAt.shaped (.str x) = true ∧ SeqAt.shaped (.str y) = true then some (.bl (decide (x = y)), m) else none := by
  rw [← str_eqv]
  rfl
@[simp] theorem o_neS {x y : Str} : neW (.str x) (.str y) m = if SeqAt.shaped (.str x) = true ∧ SeqAt.shaped (.str y) = true then some (.bl (!decide (x = y)), m) else none := by
  rw [← str_eqv]
  rfl
@[simp] theorem o_isN {w : W} : isW w .non m = some (.bl (isNon w), m) := by cases w <;> rfl
@[simp] theorem o_isnN {w : W} : isnW w .non m = some (.bl (!isNon w), m) := by cases w <;> rfl
@[simp] theorem o_isB {a b : Bool} : isW (.bl a) (.bl b) m = some (.bl (decide (a = b)), m) := by cases a <;> cases b <;> rfl
@[simp] theorem n_non : isNon .non = true := (rfl)
@[simp] theorem n_int : isNon (.int i) = false := (rfl)
@[simp] theorem n_tup {l : List W} : isNon (.tup l) = false := (rfl)
@[simp] theorem n_ref {k : Nat} : isNon (.ref k) = false := (rfl)
@[simp] theorem n_bl {b : Bool} : isNon (.bl b) = false := (rfl)
@[simp] theorem o_tup {ws : List W} : tupW ws m = if ws.length ≤ 100000 then some (.tup ws, m) else none := (rfl)
@[simp] theorem o_lst {ws : List W} : lstW ws m = if ws.length ≤ 100000 then some (.ref m.length, m ++ [.lst ws]) else none := (rfl)
end
/-! ### the store -/
section
variable {m m' : Mem} {k : Nat} {l : List W} {w : W} {o : O}
theorem seqAt_lst (h : m[k]? = some (.lst l)) : seqAt m k = some l := by unfold seqAt; rw [h]
theorem lstOf_lst (h : m[k]? = some (.lst l)) : lstOf m k = some l := by unfold lstOf; rw [h]
theorem seqAt_fro (h : m[k]? = some (.fro l)) : seqAt m k = some l := by unfold seqAt; rw [h]
theorem lst_at (h : lstOf m k = some l) : m[k]? = some (.lst l) := by
  unfold lstOf at h
  cases q : m[k]? with
  | none => rw [q] at h; cases h
  | some o =>
    rw [q] at h
    cases o with
    | lst l' => cases h; rfl
    | fro l' => cases h
theorem lstOf_seq (h : lstOf m k = some l) : seqAt m k = some l := seqAt_lst (lst_at h)
@[simp] theorem seqOf_tup : seqOf m (.tup l) = some l := (rfl)
@[simp] theorem seqOf_ref : seqOf m (.ref k) = seqAt m k := (rfl)
theorem get_app (h : m[k]? = some o) : (m ++ m')[k]? = some o := by
  rw [List.getElem?_append_left (List.getElem?_eq_some_iff.mp h).1]
  exact h
@[simp high] theorem get_new {r : Mem} : (m ++ r)[m.length]? = r[0]? := by
  rw [List.getElem?_append_right (Nat.le_refl _), Nat.sub_self]
@[simp high] theorem get_newk {r : Mem} {j : Nat} : (m ++ r)[m.length + j]? = r[j]? := by
  rw [List.getElem?_append_right (by omega), show m.length + j - m.length = j by omega]
@[simp] theorem set_new {y : O} {r : Mem} : (m ++ r).set m.length y = m ++ r.set 0 y := by
  rw [List.set_append_right _ _ (Nat.le_refl _), Nat.sub_self]
@[simp] theorem set_newk {y : O} {r : Mem} {j : Nat} : (m ++ r).set (m.length + j) y = m ++ r.set j y := by
  rw [List.set_append_right _ _ (by omega), show m.length + j - m.length = j by omega]
@[simp high] theorem get_newkk {r : Mem} {i j : Nat} : (m ++ r)[m.length + i + j]? = r[i + j]? := by
  rw [Nat.add_assoc, get_newk]
@[simp high] theorem get_newkkk {r : Mem} {i j k : Nat} : (m ++ r)[m.length + i + j + k]? = r[i + j + k]? := by
  rw [Nat.add_assoc, Nat.add_assoc, get_newk, Nat.add_assoc]
@[simp] theorem set_newkk {y : O} {r : Mem} {i j : Nat} : (m ++ r).set (m.length + i + j) y = m ++ r.set (i + j) y := by
  rw [Nat.add_assoc, set_newk]
@[simp] theorem set_newkkk {y : O} {r : Mem} {i j k : Nat} : (m ++ r).set (m.length + i + j + k) y = m ++ r.set (i + j + k) y := by
  rw [Nat.add_assoc, Nat.add_assoc, set_newk, Nat.add_assoc]
/-- b stands ahead in m -/
def Pre (b m : Mem) : Prop := ∃ r, m = b ++ r
theorem Pre.refl (b : Mem) : Pre b b := ⟨[], by simp⟩
theorem Pre.trans {a b c : Mem} (h : Pre a b) (h2 : Pre b c) : Pre a c := by
  obtain ⟨r, e⟩ := h
  obtain ⟨s, e2⟩ := h2
  exact ⟨r ++ s, by rw [e2, e, List.append_assoc]⟩
theorem Pre.app (b r : Mem) : Pre b (b ++ r) := ⟨r, rfl⟩
theorem Pre.more {b c : Mem} (h : Pre b c) (r : Mem) : Pre b (c ++ r) := h.trans (Pre.app c r)
theorem Pre.get {b c : Mem} (h : Pre b c) (e : b[k]? = some o) : c[k]? = some o := by
  obtain ⟨r, rfl⟩ := h
  exact get_app e
theorem Pre.le {b c : Mem} (h : Pre b c) : b.length ≤ c.length := by
  obtain ⟨r, rfl⟩ := h
  rw [List.length_append]
  exact Nat.le_add_right _ _
theorem Pre.set {b c : Mem} (h : Pre b c) (hk : b.length ≤ k) (o : O) : Pre b (c.set k o) := by
  obtain ⟨r, rfl⟩ := h
  exact ⟨r.set (k - b.length) o, by rw [List.set_append_right _ _ hk]⟩
end

/-! ### loops -/
/-- what a body's end must give -/
def TurnP (I : Env → Mem → Prop) (P : Ou → Prop) (o : Ou) : Prop := match o with
  | .fl (.nx env) m => I env m
  | .fl (.ct env) m => I env m
  | .fl (.bk env) m => P (.fl (.nx env) m)
  | .fl (.rt w) m => P (.fl (.rt w) m)
  | .exc e env m => P (.exc e env m)
  | .bad => False
theorem loop_post {src : Src} {g : DG} {body : DS} {P : Ou → Prop} (n : Nat) (item : Nat → W) (I : Nat → Env → Mem → Prop) (hn : ∀ k env m, k ≤ n → I k env m → nextS src k m = some (if k < n then some (item k) else none))
    (hs : ∀ k env m, k < n → I k env m → ∃ env2 m2, g (item k) env m = .ok env2 m2 ∧ TurnP (I (k + 1)) P (body env2 m2)) (he : ∀ env m, I n env m → P (.fl (.nx env) m)) :
    ∀ (d k fuel : Nat) (env : Env) (m : Mem), k + d = n → d < fuel → I k env m → P (loopL src g body fuel k env m)
  | d, k, 0, env, m, _, hf, _ => absurd hf (Nat.not_lt_zero _)
  | 0, k, fuel + 1, env, m, hk, _, hI => by
    have hk : k = n := hk
    subst hk
    unfold loopL
    rw [hn k env m (Nat.le_refl _) hI, if_neg (Nat.lt_irrefl _)]
    exact he env m hI
  | d + 1, k, fuel + 1, env, m, hk, hf, hI => by
    unfold loopL
    rw [hn k env m (by omega) hI, if_pos (by omega)]
    dsimp only
    obtain ⟨env2, m2, e, t⟩ := hs k env m (by omega) hI
    rw [e]
    dsimp only
    cases q : body env2 m2 with
    | bad => rw [q] at t; exact t.elim
    | exc e' env3 m3 => rw [q] at t; exact t
    | fl f m3 =>
      rw [q] at t
      cases f with
      | nx env3 => exact loop_post n item I hn hs he d (k + 1) fuel env3 m3 (by omega) (by omega) t
      | ct env3 => exact loop_post n item I hn hs he d (k + 1) fuel env3 m3 (by omega) (by omega) t
      | bk env3 => exact t
      | rt w => exact t
/-- for x in range(n): .. -/
theorem for_rng {a : DA} {g : DG} {body : DS} {P : Ou → Prop} {env : Env} {m : Mem} (lo : Int) (n : Nat) (I : Nat → Env → Mem → Prop) (ha : dRng1 a env m = .ok (.rng lo n) m ∨ dRng2 a env m = .ok (.rng lo n) m) (h0 : I 0 env m)
    (hs : ∀ k env m, k < n → I k env m → ∃ env2 m2, g (.int (lo + k)) env m = .ok env2 m2 ∧ TurnP (I (k + 1)) P (body env2 m2)) (he : ∀ env m, I n env m → P (.fl (.nx env) m)) :
    (dRng1 a env m = .ok (.rng lo n) m → P (sFor (dRng1 a) g body env m)) ∧ (dRng2 a env m = .ok (.rng lo n) m → P (sFor (dRng2 a) g body env m)) := by
  have go : P (loopL (.rng lo n) g body (n + 1) 0 env m) := loop_post n (fun k => .int (lo + k)) I (fun k env m _ _ => rfl) hs he n 0 (n + 1) env m (by omega) (by omega) h0
  constructor
  · intro e
    unfold sFor
    rw [e]
    exact go
  · intro e
    unfold sFor
    rw [e]
    exact go
theorem for_rng1 {a : DA} {g : DG} {body : DS} {P : Ou → Prop} {env : Env} {m : Mem} {lo : Int} {n : Nat} (I : Nat → Env → Mem → Prop) (ha : dRng1 a env m = .ok (.rng lo n) m) (h0 : I 0 env m)
    (hs : ∀ k env m, k < n → I k env m → ∃ env2 m2, g (.int (lo + k)) env m = .ok env2 m2 ∧ TurnP (I (k + 1)) P (body env2 m2)) (he : ∀ env m, I n env m → P (.fl (.nx env) m)) : P (sFor (dRng1 a) g body env m) :=
  (for_rng lo n I (.inl ha) h0 hs he).1 ha
theorem for_rng2 {a : DA} {g : DG} {body : DS} {P : Ou → Prop} {env : Env} {m : Mem} {lo : Int} {n : Nat} (I : Nat → Env → Mem → Prop) (ha : dRng2 a env m = .ok (.rng lo n) m) (h0 : I 0 env m)
    (hs : ∀ k env m, k < n → I k env m → ∃ env2 m2, g (.int (lo + k)) env m = .ok env2 m2 ∧ TurnP (I (k + 1)) P (body env2 m2)) (he : ∀ env m, I n env m → P (.fl (.nx env) m)) : P (sFor (dRng2 a) g body env m) :=
  (for_rng lo n I (.inr ha) h0 hs he).2 ha
/-- for x in a list that stays as it is -/
theorem for_lst {a : DE} {g : DG} {body : DS} {P : Ou → Prop} {env : Env} {m m1 : Mem} {k0 : Nat} (l : List W) (I : Nat → Env → Mem → Prop) (ha : a env m = .ok (.ref k0) m1) (hl : seqAt m1 k0 = some l) (h0 : I 0 env m1) (hI : ∀ k env m, I k env m → seqAt m k0 = some l)
    (hs : ∀ k w env m, l[k]? = some w → I k env m → ∃ env2 m2, g w env m = .ok env2 m2 ∧ TurnP (I (k + 1)) P (body env2 m2)) (he : ∀ env m, I l.length env m → P (.fl (.nx env) m)) : P (sFor (dIs a) g body env m) := by
  unfold sFor dIs
  rw [ha]
  simp only [s_bind_ok, hl, s_toS_ok]
  refine loop_post l.length (fun k => l.getD k .non) I (fun k env m hk h => ?_) (fun k env m hk h => ?_) he l.length 0 _ env m1 (by omega) ?_ h0
  · show (seqAt m k0).map (fun l => l[k]?) = _
    rw [hI k env m h]
    by_cases c : k < l.length
    · rw [if_pos c]
      simp [c, List.getD]
    · rw [if_neg c]
      simp [List.getElem?_eq_none (Nat.le_of_not_lt c)]
  · have c : l[k]? = some (l.getD k .non) := by simp [hk, List.getD]
    exact hs k _ env m c h
  · show l.length < ((seqAt m1 k0).getD []).length + 1
    rw [hl]
    exact Nat.lt_succ_self _
theorem for_tup {a : DE} {g : DG} {body : DS} {P : Ou → Prop} {env : Env} {m m1 : Mem} (l : List W) (I : Nat → Env → Mem → Prop) (ha : a env m = .ok (.tup l) m1) (h0 : I 0 env m1)
    (hs : ∀ k w env m, l[k]? = some w → I k env m → ∃ env2 m2, g w env m = .ok env2 m2 ∧ TurnP (I (k + 1)) P (body env2 m2)) (he : ∀ env m, I l.length env m → P (.fl (.nx env) m)) : P (sFor (dIs a) g body env m) := by
  unfold sFor dIs
  rw [ha]
  simp only [s_bind_ok, s_toS_ok]
  refine loop_post l.length (fun k => l.getD k .non) I (fun k env m hk h => ?_) (fun k env m hk h => ?_) he l.length 0 _ env m1 (by omega) ?_ h0
  · show some l[k]? = _
    by_cases c : k < l.length
    · rw [if_pos c]
      simp [c, List.getD]
    · rw [if_neg c]
      simp [List.getElem?_eq_none (Nat.le_of_not_lt c)]
  · have c : l[k]? = some (l.getD k .non) := by simp [hk, List.getD]
    exact hs k _ env m c h
  · exact Nat.lt_succ_self _
/-- while -/
theorem while_post {t : DT} {body : DS} {P : Ou → Prop} (I : Nat → Env → Mem → Prop) (hs : ∀ k env m, I k env m → ∃ c m1, t env m = .ok c m1 ∧ (c = false → P (.fl (.nx env) m1)) ∧ (c = true → TurnP (fun env2 m2 => ∃ j, j < k ∧ I j env2 m2) P (body env m1))) :
    ∀ (fuel k : Nat) (env : Env) (m : Mem), k < fuel → I k env m → P (whileL t body fuel env m)
  | 0, k, env, m, hk, _ => absurd hk (Nat.not_lt_zero _)
  | fuel + 1, k, env, m, hk, hI => by
    unfold whileL
    obtain ⟨c, m1, e, h1, h2⟩ := hs k env m hI
    rw [e]
    simp only [s_toS_ok]
    cases c with
    | false => exact h1 rfl
    | true =>
      rw [if_pos rfl]
      have tt := h2 rfl
      cases q : body env m1 with
      | bad => rw [q] at tt; exact tt.elim
      | exc e' env3 m3 => rw [q] at tt; exact tt
      | fl f m3 =>
        rw [q] at tt
        cases f with
        | nx env3 =>
          obtain ⟨j, hj, hI2⟩ := tt
          exact while_post I hs fuel j env3 m3 (by omega) hI2
        | ct env3 =>
          obtain ⟨j, hj, hI2⟩ := tt
          exact while_post I hs fuel j env3 m3 (by omega) hI2
        | bk env3 => exact tt
        | rt w => exact tt
/-- a comprehension: acc so far stands in the new list -/
theorem lc_post {src : Src} {g : DG} {t : DT} {e : DE} {env0 : Env} {kk : Nat} {P : Out Unit → Prop} (n : Nat) (item : Nat → W) (I : Nat → List W → Mem → Prop) (hn : ∀ k acc m, k ≤ n → I k acc m → nextS src k m = some (if k < n then some (item k) else none))
    (hs : ∀ k acc m, k < n → I k acc m → ∃ env2 m2 b m3, g (item k) env0 m = .ok env2 m2 ∧ t env2 m2 = .ok b m3 ∧ (b = false → I (k + 1) acc m3) ∧ (b = true → ∃ y m4, e env2 m3 = .ok y m4 ∧ lstOf m4 kk = some acc ∧ acc.length < 100000 ∧ I (k + 1) (acc ++ [y]) (m4.set kk (.lst (acc ++ [y])))))
    (he : ∀ acc m, I n acc m → P (.ok () m)) : ∀ (d k fuel : Nat) (acc : List W) (m : Mem), k + d = n → d < fuel → I k acc m → P (lcL src g t e env0 kk fuel k m)
  | d, k, 0, acc, m, _, hf, _ => absurd hf (Nat.not_lt_zero _)
  | 0, k, fuel + 1, acc, m, hk, _, hI => by
    have hk : k = n := hk
    subst hk
    unfold lcL
    rw [hn k acc m (Nat.le_refl _) hI, if_neg (Nat.lt_irrefl _)]
    exact he acc m hI
  | d + 1, k, fuel + 1, acc, m, hk, hf, hI => by
    unfold lcL
    rw [hn k acc m (by omega) hI, if_pos (by omega)]
    dsimp only
    obtain ⟨env2, m2, b, m3, e1, e2, h1, h2⟩ := hs k acc m (by omega) hI
    rw [e1]
    dsimp only
    rw [e2]
    cases b with
    | false => exact lc_post n item I hn hs he d (k + 1) fuel acc m3 (by omega) (by omega) (h1 rfl)
    | true =>
      dsimp only
      obtain ⟨y, m4, e3, e4, e5, e6⟩ := h2 rfl
      rw [e3]
      dsimp only
      rw [e4]
      dsimp only
      rw [if_pos e5]
      exact lc_post n item I hn hs he d (k + 1) fuel _ _ (by omega) (by omega) e6
/-- a comprehension whose test and item are pure -/
def pickW (y : Nat → Option W) : Nat → List W
  | 0 => []
  | n + 1 => pickW y n ++ (match y n with
    | some w => [w]
    | none => [])
theorem pick_len (y : Nat → Option W) : ∀ n, (pickW y n).length ≤ n
  | 0 => Nat.le_refl _
  | n + 1 => by
    have := pick_len y n
    unfold pickW
    rw [List.length_append]
    cases y n <;> simp <;> omega
theorem lc_pure {src : Src} {g : DG} {t : DT} {e : DE} {env0 : Env} {m : Mem} (n : Nat) (item : Nat → W) (y : Nat → Option W) (hn100 : n < 100000)
    (hn : ∀ k acc, k ≤ n → nextS src k (m ++ [.lst acc]) = some (if k < n then some (item k) else none))
    (hs : ∀ k acc, k < n → ∃ env2 b, g (item k) env0 (m ++ [.lst acc]) = .ok env2 (m ++ [.lst acc]) ∧ t env2 (m ++ [.lst acc]) = .ok b (m ++ [.lst acc]) ∧ (b = false → y k = none) ∧ (b = true → ∃ w, e env2 (m ++ [.lst acc]) = .ok w (m ++ [.lst acc]) ∧ y k = some w)) (fuel : Nat) (hf : n < fuel) :
    lcL src g t e env0 m.length fuel 0 (m ++ [.lst []]) = .ok () (m ++ [.lst (pickW y n)]) := by
  refine lc_post (P := fun o => o = .ok () (m ++ [.lst (pickW y n)])) n item (fun k acc m' => acc = pickW y k ∧ m' = m ++ [.lst acc]) (fun k acc m' hk ⟨_, h2⟩ => by rw [h2]; exact hn k acc hk) (fun k acc m' hk ⟨h1, h2⟩ => ?_) (fun acc m' ⟨h1, h2⟩ => by rw [h2, h1]) n 0 fuel [] _ (by omega) hf ⟨rfl, rfl⟩
  subst h2
  obtain ⟨env2, b, e1, e2, h3, h4⟩ := hs k acc hk
  refine ⟨env2, _, b, _, e1, e2, fun hb => ⟨?_, rfl⟩, fun hb => ?_⟩
  · rw [h1]
    show pickW y k = pickW y k ++ _
    rw [h3 hb]
    simp
  · obtain ⟨w, e3, e4⟩ := h4 hb
    refine ⟨w, _, e3, ?_, ?_, ?_, ?_⟩
    · unfold lstOf
      simp
    · have := pick_len y k
      rw [h1]
      omega
    · rw [h1]
      show pickW y k ++ [w] = pickW y k ++ _
      rw [e4]
    · simp
end Nw
namespace Nw
open PySem PySem.Spec PyProof.Rows L2
@[simp] theorem s_isi {t : Ty} {d : DE} {env : Env} {m : Mem} : dIsi t d env m = (d env m).bind fun w m1 => (match t.has w m1 with
  | some b => .ok (.bl b) m1
  | none => .bad) := (rfl)
def wholeB : W → Bool
  | .int _ => true
  | _ => false
def uptoB (w : W) (lo hi : Int) : Bool := match w with
  | .int i => decide (lo ≤ i) && decide (i ≤ hi)
  | _ => false
section
variable {m : Mem} {t : Ty} {i : Int} {b : Bool} {x : Str} {l : List W}
@[simp] theorem h_int : t.has (.int i) m = some (t.is .int) := (rfl)
@[simp] theorem h_bl : t.has (.bl b) m = some (t.is .int || t.is .bool) := (rfl)
@[simp] theorem h_non : t.has .non m = some false := (rfl)
@[simp] theorem h_str : t.has (.str x) m = some (t.is .str) := (rfl)
@[simp] theorem h_tup : t.has (.tup l) m = some (t.is .tuple) := (rfl)
end
end Nw

namespace Nw
open PySem PySem.Spec PyProof.Rows L2
/-! ### data -/
section
variable {m : Mem} {i : Int} {b : Bool} {x : Str} {l : List W} {k n : Nat}
@[simp] theorem d_bl : toD m (n + 1) (.bl b) = some (.bool b) := (rfl)
@[simp] theorem d_int : toD m (n + 1) (.int i) = some (.int i) := (rfl)
@[simp] theorem d_non : toD m (n + 1) .non = some .none := (rfl)
@[simp] theorem d_str : toD m (n + 1) (.str x) = some (.str x) := (rfl)
@[simp] theorem d_tup : toD m (n + 1) (.tup l) = (sq (l.map (toD m n))).map .tuple := (rfl)
theorem d_ref (h : seqAt m k = some l) : toD m (n + 1) (.ref k) = (sq (l.map (toD m n))).map .list := by
  unfold seqAt at h
  show (match m[k]? with
    | some (.lst l) => (sq (l.map (toD m n))).map PyData.list
    | some (.fro l) => (sq (l.map (toD m n))).map PyData.list
    | none => none) = _
  cases q : m[k]? with
  | none => rw [q] at h; cases h
  | some o =>
    rw [q] at h
    cases o <;> (cases h; rfl)
@[simp] theorem sq_nil {α : Type} : sq ([] : List (Option α)) = some [] := (rfl)
@[simp] theorem sq_cons {α : Type} {a : α} {l : List (Option α)} : sq (some a :: l) = (sq l).map (a :: ·) := by
  show ((some a).bind fun a => (sq l).map fun r => a :: r) = _
  rfl
@[simp] theorem sq_none {α : Type} {l : List (Option α)} : sq (none :: l) = (none : Option (List α)) := (rfl)
theorem sq_all {α β : Type} {f : α → Option β} {g : α → β} : ∀ {l : List α}, (∀ a, a ∈ l → f a = some (g a)) → sq (l.map f) = some (l.map g)
  | [], _ => rfl
  | a :: l, h => by
    rw [List.map_cons, h a List.mem_cons_self, sq_cons, sq_all fun b hb => h b (List.mem_cons_of_mem _ hb)]
    rfl
@[simp] theorem e_bool {a b : Bool} : PyData.eqv (.bool a) (.bool b) = (a == b) := by simp [PyData.eqv]
@[simp] theorem e_int {i j : Int} : PyData.eqv (.int i) (.int j) = decide (i = j) := by
  simp only [PyData.eqv]
  by_cases h : i = j <;> simp [h]
@[simp] theorem e_str {x y : Str} : PyData.eqv (.str x) (.str y) = decide (x = y) := by
  rw [← str_eqv]
  simp [PyData.eqv]
@[simp] theorem e_tup {x y : List PyData} : PyData.eqv (.tuple x) (.tuple y) = PyData.eqvAll x y := by simp [PyData.eqv]
@[simp] theorem e_lst {x y : List PyData} : PyData.eqv (.list x) (.list y) = PyData.eqvAll x y := by simp [PyData.eqv]
@[simp] theorem e_none : PyData.eqv .none .none = true := by simp [PyData.eqv]
@[simp] theorem s_bm {c : Rc} {f : OpM} {o : DE} {a : DA} {env : Env} : dBM c f o a env m = (o env m).bind fun x m1 => if c.ok x m1 = true then (a env m1).bind fun xs m2 => lift (f x xs m2) else .bad := (rfl)
@[simp] theorem s_bm0 {c : Rc} {f : OpM} {o : DE} {env : Env} : dBM0 c f o env m = (o env m).bind fun x m1 => if c.ok x m1 = true then lift (f x [] m1) else .bad := (rfl)
@[simp] theorem r_lst : Rc.list.ok (.ref k) m = (seqAt m k).isSome := (rfl)
@[simp] theorem s_sl {d : DE} {lo hi : DO} {env : Env} : dSl d lo hi env m = (d env m).bind fun a m1 => (lo env m1).bind fun l m2 => (hi env m2).bind fun h m3 => lift (slW l h a m3) := (rfl)
@[simp] theorem s_oNo {env : Env} : oNo env m = .ok none m := (rfl)
@[simp] theorem s_oAt {d : DE} {env : Env} : oAt d env m = (d env m).bind fun w m1 => (match w with
  | .int i => .ok (some i) m1
  | _ => .bad) := (rfl)
@[simp] theorem s_lc {it : DI} {g : DG} {t : DT} {e : DE} {vs : List Nat} {env : Env} : dLc it g t e vs env m = (it env m).bind fun src m1 => (lcL src g t e (wipeE env vs) m1.length (turnsS src m1 + 1) 0 (m1 ++ [O.lst []])).bind fun _ m2 => Out.ok (W.ref m1.length) m2 := (rfl)
@[simp] theorem s_ise {pl ini : List Str} {c : Str} {d : DE} {env : Env} : dIse pl ini c d env m = (d env m).bind fun w m1 => (match w with
  | .exv k _ => if k ∈ pl ++ ini then .ok (.bl (if c = "ValueError" then true else subT k c)) m1 else .bad
  | _ => .bad) := (rfl)
@[simp] theorem s_rng1 {a : DA} {env : Env} : dRng1 a env m = (a env m).bind fun ws m1 => (match ws with
  | [.int j] => if -1000000 ≤ j ∧ j ≤ 1000000 then .ok (.rng 0 j.toNat) m1 else .bad
  | _ => .bad) := (rfl)
@[simp] theorem s_rng2 {a : DA} {env : Env} : dRng2 a env m = (a env m).bind fun ws m1 => (match ws with
  | [.int i, .int j] => if -1000000 ≤ i ∧ i ≤ 1000000 ∧ -1000000 ≤ j ∧ j ≤ 1000000 then .ok (.rng i (j - i).toNat) m1 else .bad
  | _ => .bad) := (rfl)
@[simp] theorem s_gsb {a b : DE} {w : W} {env : Env} : gSb a b w env m = (a env m).bind fun o m1 => (b env m1).bind fun i m2 => liftU env (setW o i w m2) := (rfl)
@[simp] theorem s_liftU {env : Env} : liftU env (some m) = .ok env m := (rfl)
@[simp] theorem s_callV {n : Nat} {t : List (Str × Den)} {f : DE} {a : DA} {env : Env} : dCallV n t f a env m = (f env m).bind fun w m1 => (match w with
  | .fn x => (match t.lookup x with
    | some den => (a env m1).bind fun ws m2 => if ws.length = n then den ws m2 else .bad
    | none => .bad)
  | _ => .bad) := (rfl)
@[simp] theorem o_ixR {i : Int} : ixW (.ref k) (.int i) m = (match seqAt m k with
  | some l => (atW l i).map fun w => (w, m)
  | none => none) := (rfl)
@[simp] theorem o_ixT {i : Int} : ixW (.tup l) (.int i) m = (atW l i).map fun w => (w, m) := (rfl)
theorem at_nat {j : Nat} : atW l (j : Int) = l[j]? := by
  unfold atW
  rw [if_pos (by omega)]
  rfl
@[simp] theorem at_0 : atW l 0 = l[0]? := (rfl)
@[simp] theorem at_1 : atW l 1 = l[1]? := (rfl)
@[simp] theorem at_2 : atW l 2 = l[2]? := (rfl)
@[simp] theorem at_3 : atW l 3 = l[3]? := (rfl)
@[simp] theorem at_4 : atW l 4 = l[4]? := (rfl)
@[simp] theorem at_5 : atW l 5 = l[5]? := (rfl)
@[simp] theorem at_6 : atW l 6 = l[6]? := (rfl)
@[simp] theorem at_7 : atW l 7 = l[7]? := (rfl)
@[simp] theorem at_8 : atW l 8 = l[8]? := (rfl)
@[simp] theorem at_9 : atW l 9 = l[9]? := (rfl)
@[simp] theorem at_10 : atW l 10 = l[10]? := (rfl)
@[simp] theorem at_11 : atW l 11 = l[11]? := (rfl)
@[simp] theorem at_12 : atW l 12 = l[12]? := (rfl)
@[simp] theorem at_13 : atW l 13 = l[13]? := (rfl)
@[simp] theorem at_14 : atW l 14 = l[14]? := (rfl)
@[simp] theorem at_15 : atW l 15 = l[15]? := (rfl)
@[simp] theorem at_16 : atW l 16 = l[16]? := (rfl)
@[simp] theorem at_m1 : atW l (-1) = l[l.length - 1]? := by
  unfold atW
  rw [if_neg (by decide)]
  cases l with
  | nil => rfl
  | cons a l =>
    rw [if_pos (by simp; omega)]
    congr 1
    simp
    omega
theorem o_addL {j : Nat} {l' : List W} (h : lstOf m k = some l) (h2 : lstOf m j = some l') (h3 : l.length + l'.length ≤ 100000) : addW (.ref k) (.ref j) m = some (.ref m.length, m ++ [.lst (l ++ l')]) := by
  show (match lstOf m k, lstOf m j with
    | some x, some y => if x.length + y.length ≤ 100000 then some (W.ref m.length, m ++ [O.lst (x ++ y)]) else none
    | _, _ => none) = _
  rw [h, h2]
  dsimp only
  rw [if_pos h3]
end
end Nw
set_option Elab.async false
set_option linter.all false
set_option maxRecDepth 100000
set_option maxHeartbeats 2000000
namespace Nw
open PySem PySem.Spec PyProof.Rows L2

/-! ### texts of whole numbers -/
theorem strOk_of (s : String) : PyData.strOk (Str.ofString s) = true := by
  unfold PyData.strOk
  rw [Str.ofString_eq_toList]
  simp only [List.all_toArray, List.all_map, List.all_eq_true, Function.comp, decide_eq_true_eq]
  intro c _
  have h := c.valid
  show c.val.toNat < 0x110000
  rcases h with h | h
  · exact Nat.lt_trans h (by decide)
  · exact h.2
theorem shaped_str {x : Str} (h : PyData.strOk x = true) : SeqAt.shaped (.str x) = true := by
  unfold SeqAt.shaped
  simp [PyData.canLay0, PyData.depth, h]
@[simp] theorem shaped_of (s : String) : SeqAt.shaped (.str (Str.ofString s)) = true := shaped_str (strOk_of s)
theorem log2_lt {n k : Nat} (h : n < 2 ^ k) (hk : 0 < k) : n.log2 < k := by
  by_cases c : n = 0
  · subst c
    exact hk
  · exact (Nat.log2_lt c).mpr h
theorem o_reprI {i : Int} {m : Mem} (h : i.natAbs < 2 ^ 1920) : reprW [.int i] m = some (.str (toString i), m) := if_pos (log2_lt h (by decide))

/-! ### the drawing -/
def nxI (s : Int) : Int := ((s + 7919) % 2147483647 * ((s + 7919) % 2147483647) + 48271 * ((s + 7919) % 2147483647) + 12345) % 2147483629
def drawV (a b c n : Int) : Int := if b = 1 then a % n else nxI (nxI c + 7) / 64 % n
def drawL (a b c n : Int) : List W := if b = 1 then [.int (a / n), .int b, .int c] else [.int a, .int b, .int (nxI (nxI c + 7))]
/-- the pen stands at p -/
def Pen (m : Mem) (p : Nat) : Prop := ∃ a b c : Int, m[p]? = some (.lst [.int a, .int b, .int c])
theorem Pen.lst {m : Mem} {p : Nat} (h : Pen m p) : ∃ a b c : Int, lstOf m p = some [.int a, .int b, .int c] := by
  obtain ⟨a, b, c, e⟩ := h
  exact ⟨a, b, c, lstOf_lst e⟩
theorem Pen.pre {b m : Mem} {p : Nat} (h : Pen b p) (q : Pre b m) : Pen m p := by
  obtain ⟨x, y, z, e⟩ := h
  exact ⟨x, y, z, q.get e⟩
theorem Pen.app {m : Mem} {p : Nat} (h : Pen m p) (r : Mem) : Pen (m ++ r) p := h.pre (Pre.app m r)
def absI (c : Int) : Int := if 0 - c > c then 0 - c else c
def penL (c : Int) : List W := [.int (absI c), .int (if 10 ^ 18 ≤ absI c then 1 else 0), .int (absI c % 1000003)]
theorem pen_new (m : Mem) (c : Int) : Pen (m ++ [.lst (penL c)]) m.length := ⟨_, _, _, by
  rw [get_new]
  rfl⟩
theorem draw_lt {a b c n : Int} (h : 0 < n) : 0 ≤ drawV a b c n ∧ drawV a b c n < n := by
  unfold drawV
  by_cases e : b = 1
  · rw [if_pos e]
    exact ⟨Int.emod_nonneg _ (by omega), Int.emod_lt_of_pos _ h⟩
  · rw [if_neg e]
    exact ⟨Int.emod_nonneg _ (by omega), Int.emod_lt_of_pos _ h⟩
section
variable {m : Mem} {i j : Int} {k : Nat} {l : List W}
@[simp] theorem o_pow : powW (.int i) (.int j) m = if 0 ≤ j ∧ j ≤ 1000 ∧ i.natAbs < 18446744073709551616 then some (.int (i ^ j.toNat), m) else none := by
  unfold powW int2
  by_cases h : 0 ≤ j ∧ j ≤ 1000 ∧ i.natAbs < 18446744073709551616
  · simp [h]
  · simp [h]
@[simp] theorem o_lenR : lenW [.ref k] m = (seqAt m k).map fun l => (.int l.length, m) := (rfl)
@[simp] theorem o_lenT : lenW [.tup l] m = some (.int l.length, m) := (rfl)
end
end Nw
set_option Elab.async false
set_option linter.all false
set_option maxRecDepth 100000
set_option maxHeartbeats 1000000
/-! Pw: the reckoner's store told away: what is computed, as plain data. -/
namespace Nw
open PySem PySem.Spec PyProof.Rows L2

/-- a value as data: lists hold what they hold -/
inductive D where
  | non | bl (b : Bool) | int (i : Int) | str (x : Str) | tup (l : List D) | lst (l : List D) | fro (l : List D) | fn (x : Str) | exv (c : Str) (args : List D)
mutual
inductive Vw (A : Nat → Prop) (m : Mem) : W → D → Prop
  | non : Vw A m .non .non
  | bl (b : Bool) : Vw A m (.bl b) (.bl b)
  | int (i : Int) : Vw A m (.int i) (.int i)
  | str (x : Str) : Vw A m (.str x) (.str x)
  | tup {ws : List W} {ds : List D} : Vws A m ws ds → Vw A m (.tup ws) (.tup ds)
  | lst {k : Nat} {ws : List W} {ds : List D} : ¬ A k → m[k]? = some (.lst ws) → Vws A m ws ds → Vw A m (.ref k) (.lst ds)
  | fro {k : Nat} {ws : List W} {ds : List D} : ¬ A k → m[k]? = some (.fro ws) → Vws A m ws ds → Vw A m (.ref k) (.fro ds)
  | fn (x : Str) : Vw A m (.fn x) (.fn x)
  | exv {c : Str} {ws : List W} {ds : List D} : Vws A m ws ds → Vw A m (.exv c ws) (.exv c ds)
inductive Vws (A : Nat → Prop) (m : Mem) : List W → List D → Prop
  | nil : Vws A m [] []
  | cons {w : W} {ws : List W} {d : D} {ds : List D} : Vw A m w d → Vws A m ws ds → Vws A m (w :: ws) (d :: ds)
end
/-- what is seen from A in m is seen from A' in m' -/
def Kp (A : Nat → Prop) (m : Mem) (A' : Nat → Prop) (m' : Mem) : Prop := ∀ (k : Nat) (o : O), ¬ A k → m[k]? = some o → ¬ A' k ∧ m'[k]? = some o
theorem Kp.refl (A : Nat → Prop) (m : Mem) : Kp A m A m := fun _ _ h e => ⟨h, e⟩
theorem Kp.trans {A B C : Nat → Prop} {m n p : Mem} (h : Kp A m B n) (h2 : Kp B n C p) : Kp A m C p := fun k ws a e => let ⟨a2, e2⟩ := h k ws a e; h2 k ws a2 e2
theorem seqAt_lt {m : Mem} {k : Nat} {o : O} (h : m[k]? = some o) : k < m.length := (List.getElem?_eq_some_iff.mp h).1
theorem Kp.app (A : Nat → Prop) (m r : Mem) : Kp A m A (m ++ r) := fun _ _ h e => ⟨h, get_app e⟩
theorem Kp.less {A A' : Nat → Prop} (m : Mem) (h : ∀ k, A' k → A k) : Kp A m A' m := fun k _ a e => ⟨fun z => a (h k z), e⟩
theorem Kp.set {A : Nat → Prop} (m : Mem) {k : Nat} (o : O) (h : A k) : Kp A m A (m.set k o) := fun j ws a e => ⟨a, by
  rw [List.getElem?_set_ne]
  · exact e
  · intro z
    subst z
    exact a h⟩
section
variable {A A' : Nat → Prop} {m m' : Mem}
mutual
theorem Vw.mono (h : Kp A m A' m') : ∀ {w : W} {d : D}, Vw A m w d → Vw A' m' w d
  | _, _, .non => .non
  | _, _, .bl b => .bl b
  | _, _, .int i => .int i
  | _, _, .str x => .str x
  | _, _, .tup l => .tup (Vws.mono h l)
  | _, _, .lst a e l => let ⟨a2, e2⟩ := h _ _ a e; .lst a2 e2 (Vws.mono h l)
  | _, _, .fro a e l => let ⟨a2, e2⟩ := h _ _ a e; .fro a2 e2 (Vws.mono h l)
  | _, _, .fn x => .fn x
  | _, _, .exv l => .exv (Vws.mono h l)
theorem Vws.mono (h : Kp A m A' m') : ∀ {w : List W} {d : List D}, Vws A m w d → Vws A' m' w d
  | _, _, .nil => .nil
  | _, _, .cons a b => .cons (Vw.mono h a) (Vws.mono h b)
end
theorem Vws.length : ∀ {ws : List W} {ds : List D}, Vws A m ws ds → ws.length = ds.length
  | _, _, .nil => rfl
  | _, _, .cons _ h => congrArg (· + 1) h.length
theorem Vws.get : ∀ {ws : List W} {ds : List D} {i : Nat} {d : D}, Vws A m ws ds → ds[i]? = some d → ∃ w, ws[i]? = some w ∧ Vw A m w d
  | _, _, _, _, .nil, e => by simp at e
  | _, _, 0, _, .cons h _, e => by simp at e; subst e; exact ⟨_, rfl, h⟩
  | _, _, i + 1, d, .cons _ h, e => by
    obtain ⟨v, h1, h2⟩ := Vws.get (i := i) (d := d) h (by simpa using e)
    exact ⟨v, by simpa using h1, h2⟩
theorem Vws.append : ∀ {ws us : List W} {ds es : List D}, Vws A m ws ds → Vws A m us es → Vws A m (ws ++ us) (ds ++ es)
  | _, _, _, _, .nil, h => h
  | _, _, _, _, .cons a b, h => .cons a (Vws.append b h)
theorem Vws.take : ∀ {ws : List W} {ds : List D} (k : Nat), Vws A m ws ds → Vws A m (ws.take k) (ds.take k)
  | _, _, 0, _ => .nil
  | _, _, _ + 1, .nil => .nil
  | _, _, k + 1, .cons a b => .cons a (Vws.take k b)
theorem Vws.drop : ∀ {ws : List W} {ds : List D} (k : Nat), Vws A m ws ds → Vws A m (ws.drop k) (ds.drop k)
  | _, _, 0, h => h
  | _, _, _ + 1, .nil => .nil
  | _, _, k + 1, .cons _ b => Vws.drop k b
theorem Vws.set {w : W} {d : D} (h : Vw A m w d) : ∀ {ws : List W} {ds : List D} (k : Nat), Vws A m ws ds → Vws A m (ws.set k w) (ds.set k d)
  | _, _, _, .nil => .nil
  | _, _, 0, .cons _ b => .cons h b
  | _, _, k + 1, .cons a b => .cons a (Vws.set h k b)
theorem Vws.reverse : ∀ {ws : List W} {ds : List D}, Vws A m ws ds → Vws A m ws.reverse ds.reverse
  | _, _, .nil => .nil
  | _, _, .cons a b => by
    rw [List.reverse_cons, List.reverse_cons]
    exact Vws.append (Vws.reverse b) (.cons a .nil)
theorem Vws.eraseIdx : ∀ {ws : List W} {ds : List D} (k : Nat), Vws A m ws ds → Vws A m (ws.eraseIdx k) (ds.eraseIdx k)
  | _, _, 0, .nil => .nil
  | _, _, _ + 1, .nil => .nil
  | _, _, 0, .cons _ b => b
  | _, _, k + 1, .cons a b => .cons a (Vws.eraseIdx k b)
theorem Vws.dropLast : ∀ {ws : List W} {ds : List D}, Vws A m ws ds → Vws A m ws.dropLast ds.dropLast
  | _, _, .nil => .nil
  | _, _, .cons a .nil => .nil
  | _, _, .cons a (.cons b c) => .cons a (Vws.dropLast (.cons b c))
theorem Vws.rep {ws : List W} {ds : List D} (h : Vws A m ws ds) : ∀ k : Nat, Vws A m (List.replicate k ws).flatten (List.replicate k ds).flatten
  | 0 => .nil
  | k + 1 => by
    rw [List.replicate_succ, List.replicate_succ, List.flatten_cons, List.flatten_cons]
    exact h.append (Vws.rep h k)
theorem Vws.empty {ws : List W} {ds : List D} (h : Vws A m ws ds) : ws.isEmpty = ds.isEmpty := by
  cases h <;> rfl
end
/-! no list within -/
mutual
def D.flat : D → Bool
  | .tup l => D.flats l
  | .lst _ => false
  | .fro _ => false
  | .exv _ _ => false
  | _ => true
def D.flats : List D → Bool
  | [] => true
  | d :: l => D.flat d && D.flats l
end
section
variable {A A' : Nat → Prop} {m m' : Mem}
mutual
theorem Vw.flat : ∀ {w : W} {d : D}, Vw A m w d → d.flat = true → Vw A' m' w d
  | _, _, .non, _ => .non
  | _, _, .bl b, _ => .bl b
  | _, _, .int i, _ => .int i
  | _, _, .str x, _ => .str x
  | _, .tup ds, .tup l, h => .tup (Vws.flats l (by unfold D.flat at h; exact h))
  | _, _, .lst _ _ _, h => by unfold D.flat at h; cases h
  | _, _, .fro _ _ _, h => by unfold D.flat at h; cases h
  | _, _, .fn x, _ => .fn x
  | _, _, .exv l, h => by unfold D.flat at h; cases h
theorem Vws.flats : ∀ {ws : List W} {ds : List D}, Vws A m ws ds → D.flats ds = true → Vws A' m' ws ds
  | _, _, .nil, _ => .nil
  | _, d :: ds, .cons a b, h => by
    unfold D.flats at h
    obtain ⟨h1, h2⟩ := Bool.and_eq_true_iff.mp h
    exact .cons (Vw.flat a h1) (Vws.flats b h2)
end
end

/-! ### outcomes -/
inductive Ro (α : Type) where
  | ok (a : α) | exc (c : Str) (args : List D) | bad
def Ro.bind {α β : Type} (o : Ro α) (f : α → Ro β) : Ro β := match o with
  | .ok a => f a
  | .exc c as => .exc c as
  | .bad => .bad
def ofO {α : Type} (o : Option α) : Ro α := match o with
  | some a => .ok a
  | none => .bad
/-- the outcome x, from m on, is as told by y; m stays as it is -/
def Qo {α β : Type} (A : Nat → Prop) (m : Mem) (V : Mem → α → β → Prop) (x : Out α) (y : Ro β) : Prop := match y with
  | .ok b => ∃ a r, x = .ok a (m ++ r) ∧ V (m ++ r) a b
  | .exc c as => ∃ ws r, x = .exc ⟨c, ws⟩ (m ++ r) ∧ Vws A (m ++ r) ws as
  | .bad => True
section
variable {A : Nat → Prop} {m : Mem} {α β γ δ : Type} {V : Mem → α → β → Prop} {V2 : Mem → γ → δ → Prop}
theorem Qo.bind {x : Out α} {y : Ro β} {f : α → Mem → Out γ} {g : β → Ro δ} (h : Qo A m V x y) (k : ∀ r a b, V (m ++ r) a b → Qo A (m ++ r) V2 (f a (m ++ r)) (g b)) : Qo A m V2 (x.bind f) (y.bind g) := by
  cases y with
  | bad => trivial
  | exc c as =>
    obtain ⟨ws, r, e, h⟩ := h
    subst e
    exact ⟨ws, r, rfl, h⟩
  | ok b =>
    obtain ⟨a, r, e, h⟩ := h
    subst e
    have q := k r a b h
    show Qo A m V2 (f a (m ++ r)) (g b)
    cases z : g b with
    | bad => trivial
    | exc c as =>
      rw [z] at q
      obtain ⟨ws, r2, e, h2⟩ := q
      exact ⟨ws, r ++ r2, by rw [e, List.append_assoc], by rw [← List.append_assoc]; exact h2⟩
    | ok d =>
      rw [z] at q
      obtain ⟨c, r2, e, h2⟩ := q
      exact ⟨c, r ++ r2, by rw [e, List.append_assoc], by rw [← List.append_assoc]; exact h2⟩
theorem Qo.ret {a : α} {b : β} (h : V m a b) : Qo A m V (.ok a m) (.ok b) := ⟨a, [], by rw [List.append_nil], by rw [List.append_nil]; exact h⟩
theorem Qo.imp {V' : Mem → α → β → Prop} {x : Out α} {y : Ro β} (h : Qo A m V x y) (k : ∀ r a b, V (m ++ r) a b → V' (m ++ r) a b) : Qo A m V' x y := by
  cases y with
  | bad => trivial
  | exc c as => exact h
  | ok b =>
    obtain ⟨a, r, e, h⟩ := h
    exact ⟨a, r, e, k _ _ _ h⟩
end
abbrev Bd (A : Nat → Prop) (m : Mem) : Prop := ∀ k, A k → k < m.length
theorem Bd.app {A : Nat → Prop} {m : Mem} (h : Bd A m) (r : Mem) : Bd A (m ++ r) := fun k a => Nat.lt_of_lt_of_le (h k a) (by rw [List.length_append]; exact Nat.le_add_right _ _)
abbrev VEnv := List (Option D)
abbrev OEnv := List (Option (List D))
abbrev VE := VEnv → OEnv → Ro D
abbrev VT := VEnv → OEnv → Ro Bool
abbrev VA := VEnv → OEnv → Ro (List D)
structure RQ (A : Nat → Prop) (env : Env) (m : Mem) (v : VEnv) (o : OEnv) : Prop where
  lv : v.length ≤ env.length
  vw : ∀ (i : Nat) (d : D), v[i]? = some (some d) → ∃ w, env[i]? = some (some w) ∧ Vw A m w d
  ow : ∀ (i : Nat) (l : List D), o[i]? = some (some l) → ∃ w, env[i]? = some (some w) ∧ Vw A m w (.lst l)
theorem RQ.mono {A A' : Nat → Prop} {env : Env} {m m' : Mem} {v : VEnv} {o : OEnv} (h : RQ A env m v o) (k : Kp A m A' m') : RQ A' env m' v o :=
  ⟨h.lv, fun i d e => let ⟨w, h1, h2⟩ := h.vw i d e; ⟨w, h1, h2.mono k⟩, fun i d e => let ⟨w, h1, h2⟩ := h.ow i d e; ⟨w, h1, h2.mono k⟩⟩
theorem RQ.app {A : Nat → Prop} {env : Env} {m : Mem} {v : VEnv} {o : OEnv} (h : RQ A env m v o) (r : Mem) : RQ A env (m ++ r) v o := h.mono (Kp.app A m r)
abbrev VW (A : Nat → Prop) : Mem → W → D → Prop := fun m w d => Vw A m w d
abbrev VWs (A : Nat → Prop) : Mem → List W → List D → Prop := fun m w d => Vws A m w d
def VB : Mem → Bool → Bool → Prop := fun _ a b => a = b
def QE (e : DE) (q : VE) : Prop := ∀ A env m v o, Bd A m → RQ A env m v o → Qo A m (VW A) (e env m) (q v o)
def QT (e : DT) (q : VT) : Prop := ∀ A env m v o, Bd A m → RQ A env m v o → Qo A m VB (e env m) (q v o)
def QA (e : DA) (q : VA) : Prop := ∀ A env m v o, Bd A m → RQ A env m v o → Qo A m (VWs A) (e env m) (q v o)
abbrev P2 := D → D → Option D
abbrev P1 := D → Option D
abbrev PN := List D → Option D
/-- an operation that only reads -/
def Gv (A : Nat → Prop) (m : Mem) (x : Option (W × Mem)) (y : Option D) : Prop := match y with
  | some d => ∃ w r, x = some (w, m ++ r) ∧ Vw A (m ++ r) w d
  | none => True
def Q2 (f : Op2) (g : P2) : Prop := ∀ A m a b x y, Bd A m → Vw A m a x → Vw A m b y → Gv A m (f a b m) (g x y)
def Q1 (f : Op1) (g : P1) : Prop := ∀ A m a x, Bd A m → Vw A m a x → Gv A m (f a m) (g x)
def QN (f : OpN) (g : PN) : Prop := ∀ A m a x, Bd A m → Vws A m a x → Gv A m (f a m) (g x)
theorem Gv.ret {A : Nat → Prop} {m : Mem} {w : W} {d : D} (h : Vw A m w d) : Gv A m (some (w, m)) (some d) := ⟨w, [], by rw [List.append_nil], by rw [List.append_nil]; exact h⟩
theorem Gv.new {A : Nat → Prop} {m : Mem} {ws : List W} {ds : List D} (hb : Bd A m) (h : Vws A m ws ds) : Gv A m (some (.ref m.length, m ++ [.lst ws])) (some (.lst ds)) :=
  ⟨_, _, rfl, .lst (fun z => Nat.lt_irrefl _ (hb _ z)) get_new (h.mono (Kp.app _ _ _))⟩
theorem Gv.lift {A : Nat → Prop} {m : Mem} {x : Option (W × Mem)} {y : Option D} (h : Gv A m x y) : Qo A m (VW A) (lift x) (ofO y) := by
  cases y with
  | none => trivial
  | some d =>
    obtain ⟨w, r, e, h⟩ := h
    subst e
    exact ⟨w, r, rfl, h⟩

/-! ### expressions -/
def vVar (i : Nat) : VE := fun v o => match v[i]? with
  | some (some d) => .ok d
  | _ => .bad
/-- a list of one's own, read -/
def vOwn (i : Nat) : VE := fun v o => match o[i]? with
  | some (some l) => .ok (.lst l)
  | _ => .bad
def vC (d : D) : VE := fun _ _ => .ok d
def vOp (g : P2) (a b : VE) : VE := fun v o => (a v o).bind fun x => (b v o).bind fun y => ofO (g x y)
def vUn (g : P1) (a : VE) : VE := fun v o => (a v o).bind fun x => ofO (g x)
def vNil : VA := fun _ _ => .ok []
def vCons (a : VE) (b : VA) : VA := fun v o => (a v o).bind fun x => (b v o).bind fun xs => .ok (x :: xs)
def vCB (g : PN) (a : VA) : VE := fun v o => (a v o).bind fun xs => ofO (g xs)
section
variable {a b c : DE} {qa qb qc : VE} {as : DA} {qs : VA}
theorem q_var (i : Nat) : QE (dVar i) (vVar i) := fun A env m v o hb R => by
  unfold vVar
  cases e : v[i]? with
  | none => trivial
  | some x => cases x with
    | none => trivial
    | some d =>
      obtain ⟨w, h1, h2⟩ := R.vw i d e
      rw [s_var, h1]
      exact Qo.ret h2
theorem q_own (i : Nat) : QE (dVar i) (vOwn i) := fun A env m v o hb R => by
  unfold vOwn
  cases e : o[i]? with
  | none => trivial
  | some x => cases x with
    | none => trivial
    | some d =>
      obtain ⟨w, h1, h2⟩ := R.ow i d e
      rw [s_var, h1]
      exact Qo.ret h2
theorem q_c {w : W} {d : D} (h : ∀ A m, Vw A m w d) : QE (dC w) (vC d) := fun A env m v o hb R => Qo.ret (h A m)
theorem q_op {f : Op2} {g : P2} (hf : Q2 f g) (ha : QE a qa) (hb : QE b qb) : QE (dOp f a b) (vOp g qa qb) := fun A env m v o h R =>
  Qo.bind (ha A env m v o h R) fun r x dx hx => Qo.bind (hb A env _ v o (h.app r) (R.app r)) fun r2 y dy hy => (hf A _ x y dx dy ((h.app r).app r2) (hx.mono (Kp.app _ _ _)) hy).lift
theorem q_un {f : Op1} {g : P1} (hf : Q1 f g) (ha : QE a qa) : QE (dUn f a) (vUn g qa) := fun A env m v o h R =>
  Qo.bind (ha A env m v o h R) fun r x dx hx => (hf A _ x dx (h.app r) hx).lift
theorem q_nil : QA dNil vNil := fun A env m v o h R => Qo.ret .nil
theorem q_cons (ha : QE a qa) (hs : QA as qs) : QA (dCons a as) (vCons qa qs) := fun A env m v o h R =>
  Qo.bind (ha A env m v o h R) fun r x dx hx => Qo.bind (hs A env _ v o (h.app r) (R.app r)) fun r2 y dy hy => Qo.ret (.cons (hx.mono (Kp.app _ _ _)) hy)
theorem q_cb {f : OpN} {g : PN} (hf : QN f g) (ha : QA as qs) : QE (dCB f as) (vCB g qs) := fun A env m v o h R =>
  Qo.bind (ha A env m v o h R) fun r x dx hx => (hf A _ x dx (h.app r) hx).lift
end

/-! ### truth -/
def truD : D → Option Bool
  | .non => some false
  | .bl b => some b
  | .int i => some (i != 0)
  | .str x => if x.length ≤ 100000 then some ((x.length : Int) != 0) else none
  | .tup l => some (!l.isEmpty)
  | .lst l => some (!l.isEmpty)
  | .fro l => some (!l.isEmpty)
  | _ => none
theorem tru_vw {A : Nat → Prop} {m : Mem} {w : W} {d : D} {b : Bool} (h : Vw A m w d) (e : truD d = some b) : truW w m = some b := by
  cases h with
  | non => exact e
  | bl _ => exact e
  | int _ => exact e
  | str _ => exact e
  | tup l =>
    unfold truW
    dsimp only
    rw [l.empty]
    exact e
  | @lst k ws ds _ hs l =>
    show (match m[k]? with
      | some (.lst l) => some (!l.isEmpty)
      | some (.fro l) => some (!l.isEmpty)
      | none => none) = some b
    rw [hs]
    dsimp only
    rw [l.empty]
    exact e
  | @fro k ws ds _ hs l =>
    show (match m[k]? with
      | some (.lst l) => some (!l.isEmpty)
      | some (.fro l) => some (!l.isEmpty)
      | none => none) = some b
    rw [hs]
    dsimp only
    rw [l.empty]
    exact e
  | fn _ => cases e
  | exv _ => cases e
def blD : D → Option Bool
  | .bl b => some b
  | _ => none
def vTru (q : VE) : VT := fun v o => (q v o).bind fun d => ofO (truD d)
def vTst (q : VE) : VT := fun v o => (q v o).bind fun d => ofO (blD d)
def vAnd (a b : VT) : VT := fun v o => (a v o).bind fun c => if c = true then b v o else .ok false
def vOr (a b : VT) : VT := fun v o => (a v o).bind fun c => if c = true then .ok true else b v o
def vNot (a : VT) : VT := fun v o => (a v o).bind fun c => .ok (!c)
def vIf (t : VT) (a b : VE) : VE := fun v o => (t v o).bind fun c => if c = true then a v o else b v o
def vAndV (a b : VE) : VE := fun v o => (a v o).bind fun d => (ofO (truD d)).bind fun c => if c = true then b v o else .ok d
def vOrV (a b : VE) : VE := fun v o => (a v o).bind fun d => (ofO (truD d)).bind fun c => if c = true then .ok d else b v o
def vNotV (a : VE) : VE := fun v o => (a v o).bind fun d => (ofO (truD d)).bind fun c => .ok (.bl (!c))
def vChn (f g : P2) (a b c : VE) : VE := fun v o => (a v o).bind fun x => (b v o).bind fun y => (ofO (f x y)).bind fun z => (ofO (blD z)).bind fun k => if k = true then (c v o).bind fun u => ofO (g y u) else .ok (.bl false)
def vYes : VT := fun _ _ => .ok true
section
variable {a b c : DE} {qa qb qc : VE} {t u : DT} {qt qu : VT}
theorem tru_q {A : Nat → Prop} {m : Mem} {w : W} {d : D} (h : Vw A m w d) : Qo A m VB (liftB (truW w m) m) (ofO (truD d)) := by
  cases e : truD d with
  | none => trivial
  | some x =>
    rw [tru_vw h e]
    exact Qo.ret rfl
theorem bl_q {A : Nat → Prop} {m : Mem} {w : W} {d : D} (h : Vw A m w d) : Qo A m VB (liftB (blW w) m) (ofO (blD d)) := by
  cases h with
  | bl b => exact Qo.ret rfl
  | _ => trivial
theorem q_tru (ha : QE a qa) : QT (dTru a) (vTru qa) := fun A env m v o h R => Qo.bind (ha A env m v o h R) fun r x dx hx => tru_q hx
theorem q_tst (ha : QE a qa) : QT (dTst a) (vTst qa) := fun A env m v o h R => Qo.bind (ha A env m v o h R) fun r x dx hx => bl_q hx
theorem q_and (ha : QT t qt) (hb : QT u qu) : QT (dAnd t u) (vAnd qt qu) := fun A env m v o h R => Qo.bind (ha A env m v o h R) fun r x dx hx => by
  cases (show x = dx from hx)
  cases x with
  | true => exact hb A env _ v o (h.app r) (R.app r)
  | false => exact Qo.ret rfl
theorem q_or (ha : QT t qt) (hb : QT u qu) : QT (dOr t u) (vOr qt qu) := fun A env m v o h R => Qo.bind (ha A env m v o h R) fun r x dx hx => by
  cases (show x = dx from hx)
  cases x with
  | true => exact Qo.ret rfl
  | false => exact hb A env _ v o (h.app r) (R.app r)
theorem q_not (ha : QT t qt) : QT (dNot t) (vNot qt) := fun A env m v o h R => Qo.bind (ha A env m v o h R) fun r x dx hx => by
  cases (show x = dx from hx)
  exact Qo.ret rfl
theorem q_if (ht : QT t qt) (ha : QE a qa) (hb : QE b qb) : QE (dIf t a b) (vIf qt qa qb) := fun A env m v o h R => Qo.bind (ht A env m v o h R) fun r x dx hx => by
  cases (show x = dx from hx)
  cases x with
  | true => exact ha A env _ v o (h.app r) (R.app r)
  | false => exact hb A env _ v o (h.app r) (R.app r)
theorem q_andV (ha : QE a qa) (hb : QE b qb) : QE (dAndV a b) (vAndV qa qb) := fun A env m v o h R => Qo.bind (ha A env m v o h R) fun r x dx hx => Qo.bind (tru_q hx) fun r2 y dy hy => by
  cases (show y = dy from hy)
  cases y with
  | true => exact hb A env _ v o ((h.app r).app r2) ((R.app r).app r2)
  | false => exact Qo.ret (hx.mono (Kp.app _ _ _))
theorem q_orV (ha : QE a qa) (hb : QE b qb) : QE (dOrV a b) (vOrV qa qb) := fun A env m v o h R => Qo.bind (ha A env m v o h R) fun r x dx hx => Qo.bind (tru_q hx) fun r2 y dy hy => by
  cases (show y = dy from hy)
  cases y with
  | true => exact Qo.ret (hx.mono (Kp.app _ _ _))
  | false => exact hb A env _ v o ((h.app r).app r2) ((R.app r).app r2)
theorem q_notV (ha : QE a qa) : QE (dNotV a) (vNotV qa) := fun A env m v o h R => Qo.bind (ha A env m v o h R) fun r x dx hx => Qo.bind (tru_q hx) fun r2 y dy hy => by
  cases (show y = dy from hy)
  exact Qo.ret (.bl _)
theorem q_chn {f g : Op2} {f' g' : P2} (hf : Q2 f f') (hg : Q2 g g') (ha : QE a qa) (hb : QE b qb) (hc : QE c qc) : QE (dChn f g a b c) (vChn f' g' qa qb qc) := fun A env m v o h R =>
  Qo.bind (ha A env m v o h R) fun r x dx hx => Qo.bind (hb A env _ v o (h.app r) (R.app r)) fun r2 y dy hy =>
    Qo.bind (hf A _ x y dx dy ((h.app r).app r2) (hx.mono (Kp.app _ _ _)) hy).lift fun r3 z dz hz => Qo.bind (bl_q hz) fun r4 k dk hk => by
      cases (show k = dk from hk)
      cases k with
      | true => exact Qo.bind (hc A env _ v o ((((h.app r).app r2).app r3).app r4) ((((R.app r).app r2).app r3).app r4)) fun r5 u du hu => (hg A _ y u dy du (((((h.app r).app r2).app r3).app r4).app r5) (hy.mono (((Kp.app _ _ _).trans (Kp.app _ _ _)).trans (Kp.app _ _ _))) hu).lift
      | false => exact Qo.ret (.bl false)
theorem q_yes : QT dYes vYes := fun A env m v o h R => Qo.ret rfl
end

/-! ### calls -/
abbrev FD := List D → Ro D
/-- a def that leaves what stood before as it was -/
def FQ (f : Den) (F : FD) : Prop := ∀ A m ws ds, Bd A m → Vws A m ws ds → Qo A m (VW A) (f ws m) (F ds)
def vCall (n : Nat) (F : FD) (a : VA) : VE := fun v o => (a v o).bind fun ds => if ds.length = n then F ds else .bad
def vCall0 (F : FD) : VE := fun _ _ => F []
theorem q_call {n : Nat} {f : Den} {F : FD} {as : DA} {qs : VA} (hf : FQ f F) (hs : QA as qs) : QE (dCall n f as) (vCall n F qs) := fun A env m v o h R => Qo.bind (hs A env m v o h R) fun r x dx hx => by
  rw [hx.length]
  by_cases c : dx.length = n
  · rw [if_pos c, if_pos c]
    exact hf A _ x dx (h.app r) hx
  · rw [if_neg c, if_neg c]
    trivial
theorem q_call0 {f : Den} {F : FD} (hf : FQ f F) : QE (dCall0 f) (vCall0 F) := fun A env m v o h R => hf A m [] [] h .nil
def vCallV (n : Nat) (t : List (Str × FD)) (f : VE) (a : VA) : VE := fun v o => (f v o).bind fun d => match d with
  | .fn x => (match t.lookup x with
    | some F => (a v o).bind fun ds => if ds.length = n then F ds else .bad
    | none => .bad)
  | _ => .bad
inductive FQs : List (Str × Den) → List (Str × FD) → Prop
  | nil : FQs [] []
  | cons {x : Str} {f : Den} {F : FD} {t : List (Str × Den)} {T : List (Str × FD)} : FQ f F → FQs t T → FQs ((x, f) :: t) ((x, F) :: T)
theorem FQs.get {x : Str} {F : FD} : ∀ {t : List (Str × Den)} {T : List (Str × FD)}, FQs t T → T.lookup x = some F → ∃ f, t.lookup x = some f ∧ FQ f F
  | _, _, .nil, h => by cases h
  | _, _, .cons (x := y) hf r, h => by
    unfold List.lookup at h ⊢
    by_cases e : x = y
    · subst e
      rw [beq_self_eq_true] at h ⊢
      cases h
      exact ⟨_, rfl, hf⟩
    · rw [beq_eq_false_iff_ne.mpr e] at h ⊢
      exact r.get h
theorem q_callV {n : Nat} {t : List (Str × Den)} {T : List (Str × FD)} {f : DE} {qf : VE} {as : DA} {qs : VA} (ht : FQs t T) (hf : QE f qf) (hs : QA as qs) : QE (dCallV n t f as) (vCallV n T qf qs) := fun A env m v o h R => Qo.bind (hf A env m v o h R) fun r x dx hx => by
  cases hx with
  | fn x =>
    dsimp only
    cases e : T.lookup x with
    | none => trivial
    | some F =>
      obtain ⟨f, e1, e2⟩ := ht.get e
      rw [e1]
      exact q_call (n := n) e2 hs A env _ v o (h.app r) (R.app r)
  | _ => trivial
end Nw
set_option Elab.async false
set_option linter.all false
set_option maxRecDepth 100000
set_option maxHeartbeats 1000000
namespace Nw
open PySem PySem.Spec PyProof.Rows L2

/-! ### the operations on data -/
def toP : Nat → D → Option PyData
  | 0, _ => none
  | _ + 1, .non => some .none
  | _ + 1, .bl b => some (.bool b)
  | _ + 1, .int i => some (.int i)
  | _ + 1, .str x => some (.str x)
  | n + 1, .tup l => (sq (l.map (toP n))).map .tuple
  | n + 1, .lst l => (sq (l.map (toP n))).map .list
  | n + 1, .fro l => (sq (l.map (toP n))).map .list
  | _ + 1, .fn _ => none
  | _ + 1, .exv _ _ => none
section
variable {A : Nat → Prop} {m : Mem}
theorem toPs_vw {n : Nat} (ih : ∀ (w : W) (d : D) (p : PyData), Vw A m w d → toP n d = some p → toD m n w = some p) : ∀ (ws : List W) (ds : List D) (ps : List PyData), Vws A m ws ds → sq (ds.map (toP n)) = some ps → sq (ws.map (toD m n)) = some ps
  | _, [], ps, h, e => by
    cases h
    exact e
  | _, d :: ds, ps, h, e => by
    cases h with
    | cons h1 h2 =>
      have e : ((toP n d).bind fun a => (sq (ds.map (toP n))).map fun r => a :: r) = some ps := e
      cases q : toP n d with
      | none => rw [q] at e; cases e
      | some p =>
        cases q2 : sq (ds.map (toP n)) with
        | none => rw [q, q2] at e; cases e
        | some ps' =>
          rw [q, q2] at e
          cases e
          rw [List.map_cons, ih _ d p h1 q, sq_cons, toPs_vw ih _ ds ps' h2 q2]
          rfl
theorem toP_vw : ∀ (n : Nat) (w : W) (d : D) (p : PyData), Vw A m w d → toP n d = some p → toD m n w = some p
  | 0, _, _, _, _, e => by cases e
  | n + 1, w, d, p, h, e => by
    cases h with
    | non => exact e
    | bl _ => exact e
    | int _ => exact e
    | str _ => exact e
    | fn _ => cases e
    | exv _ => cases e
    | @tup ws ds hs =>
      have e : (sq (ds.map (toP n))).map PyData.tuple = some p := e
      obtain ⟨ps, e1, e2⟩ := Option.map_eq_some_iff.mp e
      subst e2
      rw [d_tup, toPs_vw (toP_vw n) ws ds ps hs e1]
      rfl
    | @lst k ws ds _ hk hs =>
      have e : (sq (ds.map (toP n))).map PyData.list = some p := e
      obtain ⟨ps, e1, e2⟩ := Option.map_eq_some_iff.mp e
      subst e2
      rw [d_ref (seqAt_lst hk), toPs_vw (toP_vw n) ws ds ps hs e1]
      rfl
    | @fro k ws ds _ hk hs =>
      have e : (sq (ds.map (toP n))).map PyData.list = some p := e
      obtain ⟨ps, e1, e2⟩ := Option.map_eq_some_iff.mp e
      subst e2
      rw [d_ref (seqAt_fro hk), toPs_vw (toP_vw n) ws ds ps hs e1]
      rfl
theorem seqD_vw {w : W} {l : List D} {ps : List PyData} (h : Vw A m w (.lst l)) (e : sq (l.map (toP deep)) = some ps) : seqD m w = some ps := by
  cases h with
  | @lst k ws _ _ hk hs =>
    unfold seqD
    dsimp only
    rw [seqAt_lst hk]
    exact toPs_vw (toP_vw deep) ws l ps hs e
end
def pair2 (f : PyData → PyData → Option D) : P2 := fun a b => match toP deep a, toP deep b with
  | some d, some e => if SeqAt.shaped d = true ∧ SeqAt.shaped e = true then f d e else none
  | _, _ => none
def eqV : P2 := pair2 fun d e => some (.bl (PyData.eqv d e))
def neV : P2 := pair2 fun d e => some (.bl (!PyData.eqv d e))
def inV : P2 := pair2 fun d e => (inD d e).map fun b => .bl b
def ninV : P2 := pair2 fun d e => (inD d e).map fun b => .bl (!b)
theorem q2_pair {f : Op2} {g : PyData → PyData → Option D} (h : ∀ a b m, f a b m = match toD m deep a, toD m deep b with
  | some d, some e => if SeqAt.shaped d = true ∧ SeqAt.shaped e = true then (g d e).bind (fun x => match x with
    | .bl b => some (.bl b, m)
    | _ => none) else none
  | _, _ => none) (hg : ∀ d e x, g d e = some x → ∃ b, x = .bl b) : Q2 f (pair2 g) := by
  intro A m a b x y hb ha hy
  unfold pair2
  cases e1 : toP deep x with
  | none => trivial
  | some d =>
    cases e2 : toP deep y with
    | none => trivial
    | some e =>
      dsimp only
      by_cases c : SeqAt.shaped d = true ∧ SeqAt.shaped e = true
      · rw [if_pos c, h, toP_vw _ _ _ _ ha e1, toP_vw _ _ _ _ hy e2]
        dsimp only
        rw [if_pos c]
        cases q : g d e with
        | none => trivial
        | some z =>
          obtain ⟨b, rfl⟩ := hg d e z q
          exact Gv.ret (.bl b)
      · rw [if_neg c]
        trivial
theorem q_eqW : Q2 eqW eqV := q2_pair (fun _ _ _ => rfl) fun _ _ _ e => by cases e; exact ⟨_, rfl⟩
theorem q_neW : Q2 neW neV := q2_pair (fun _ _ _ => rfl) fun _ _ _ e => by cases e; exact ⟨_, rfl⟩
theorem map_bl {o : Option Bool} {g : Bool → Bool} {m : Mem} : (o.map fun b => ((.bl (g b) : W), m)) = (o.map fun b => (.bl (g b) : D)).bind (fun x => match x with
    | .bl b => some (.bl b, m)
    | _ => none) := by cases o <;> rfl
theorem q_inW : Q2 inW inV := q2_pair (fun a b m => by
  unfold inW
  cases toD m deep a with
  | none => rfl
  | some d => cases toD m deep b with
    | none => rfl
    | some e =>
      dsimp only
      by_cases c : SeqAt.shaped d = true ∧ SeqAt.shaped e = true
      · rw [if_pos c, if_pos c]
        exact map_bl (g := id)
      · rw [if_neg c, if_neg c]) fun d e x h => by
  obtain ⟨b, _, rfl⟩ := Option.map_eq_some_iff.mp h
  exact ⟨_, rfl⟩
theorem q_ninW : Q2 ninW ninV := q2_pair (fun a b m => by
  unfold ninW
  cases toD m deep a with
  | none => rfl
  | some d => cases toD m deep b with
    | none => rfl
    | some e =>
      dsimp only
      by_cases c : SeqAt.shaped d = true ∧ SeqAt.shaped e = true
      · rw [if_pos c, if_pos c]
        exact map_bl (g := fun b => !b)
      · rw [if_neg c, if_neg c]) fun d e x h => by
  obtain ⟨b, _, rfl⟩ := Option.map_eq_some_iff.mp h
  exact ⟨_, rfl⟩
def scD : W → Option D
  | .int i => some (.int i)
  | .bl b => some (.bl b)
  | _ => none
def int2V (g : Int → Int → Option W) : P2 := fun a b => match a, b with
  | .int i, .int j => (g i j).bind scD
  | _, _ => none
theorem q_int2 (g : Int → Int → Option W) : Q2 (int2 g) (int2V g) := by
  intro A m a b x y hb ha hy
  cases ha with
  | int i => cases hy with
    | int j =>
      show Gv A m ((g i j).map fun w => (w, m)) ((g i j).bind scD)
      cases g i j with
      | none => trivial
      | some w => cases w with
        | int k => exact Gv.ret (.int k)
        | bl k => exact Gv.ret (.bl k)
        | _ => trivial
    | _ => trivial
  | _ => trivial
def subV : P2 := fun a b => match a, b with
  | .int i, .int j => some (.int (i - j))
  | _, _ => none
def modV : P2 := fun a b => match a, b with
  | .int i, .int j => if 0 < j then some (.int (i % j)) else none
  | _, _ => none
def fdivV : P2 := fun a b => match a, b with
  | .int i, .int j => if 0 < j ∧ j < 1073741824 then some (.int (i / j)) else none
  | _, _ => none
def powV : P2 := fun a b => match a, b with
  | .int i, .int j => if 0 ≤ j ∧ j ≤ 1000 ∧ i.natAbs < 18446744073709551616 then some (.int (i ^ j.toNat)) else none
  | _, _ => none
def shlV : P2 := fun a b => match a, b with
  | .int i, .int j => if 0 ≤ j ∧ j ≤ 1000 ∧ i.natAbs < 18446744073709551616 then some (.int (i * 2 ^ j.toNat)) else none
  | _, _ => none
def xorV : P2 := fun a b => match a, b with
  | .int i, .int j => some (.int (Builtin.bitXor i j))
  | _, _ => none
def geV : P2 := fun a b => match a, b with
  | .int i, .int j => some (.bl (decide (j ≤ i)))
  | _, _ => none
theorem q2_int {g : Int → Int → Option W} {f : P2} (h : ∀ a b, f a b = int2V g a b) : Q2 (int2 g) f := fun A m a b x y hb ha hy => by
  rw [h]
  exact q_int2 g A m a b x y hb ha hy
theorem q_subW : Q2 subW subV := q2_int fun a b => by cases a <;> cases b <;> rfl
theorem q_modW : Q2 modW modV := q2_int fun a b => by cases a <;> cases b <;> first | rfl | (rename_i i j; show (if _ then _ else _) = Option.bind (if _ then _ else _) scD; split <;> rfl)
theorem q_fdivW : Q2 fdivW fdivV := q2_int fun a b => by cases a <;> cases b <;> first | rfl | (rename_i i j; show (if _ then _ else _) = Option.bind (if _ then _ else _) scD; split <;> rfl)
theorem q_powW : Q2 powW powV := q2_int fun a b => by cases a <;> cases b <;> first | rfl | (rename_i i j; show (if _ then _ else _) = Option.bind (if _ then _ else _) scD; split <;> rfl)
theorem q_shlW : Q2 shlW shlV := q2_int fun a b => by cases a <;> cases b <;> first | rfl | (rename_i i j; show (if _ then _ else _) = Option.bind (if _ then _ else _) scD; split <;> rfl)
theorem q_xorW : Q2 xorW xorV := q2_int fun a b => by cases a <;> cases b <;> rfl
theorem q_geW : Q2 geW geV := q2_int fun a b => by cases a <;> cases b <;> rfl
def addV : P2 := fun a b => match a, b with
  | .int i, .int j => some (.int (i + j))
  | .str x, .str y => if x.length + y.length ≤ 100000 then some (.str (x ++ y)) else none
  | .tup x, .tup y => if x.length + y.length ≤ 100000 then some (.tup (x ++ y)) else none
  | .lst x, .lst y => if x.length + y.length ≤ 100000 then some (.lst (x ++ y)) else none
  | _, _ => none
def seqV : D → Option (List D)
  | .tup l => some l
  | .lst l => some l
  | .fro l => some l
  | _ => none
section
variable {A : Nat → Prop} {m : Mem}
theorem seq_vw {w : W} {d : D} {l : List D} (h : Vw A m w d) (e : seqV d = some l) : ∃ ws, seqOf m w = some ws ∧ Vws A m ws l := by
  cases h with
  | tup hs => cases e; exact ⟨_, rfl, hs⟩
  | lst _ hk hs => cases e; exact ⟨_, seqAt_lst hk, hs⟩
  | fro _ hk hs => cases e; exact ⟨_, seqAt_fro hk, hs⟩
  | _ => cases e
def intsV : List D → Option (List Int)
  | [] => some []
  | .int i :: l => (intsV l).map (i :: ·)
  | _ :: _ => none
def blsV : List D → Option (List Bool)
  | [] => some []
  | .bl i :: l => (blsV l).map (i :: ·)
  | _ :: _ => none
theorem ints_vw : ∀ {ws : List W} {ds : List D} {ns : List Int}, Vws A m ws ds → intsV ds = some ns → intsW ws = some ns
  | _, _, _, .nil, e => e
  | _, .int _ :: _, _, .cons (.int i) h, e => by
    have e : (intsV _).map (i :: ·) = some _ := e
    obtain ⟨ns, e1, e2⟩ := Option.map_eq_some_iff.mp e
    subst e2
    show (intsW _).map (i :: ·) = _
    rw [ints_vw h e1]
    rfl
  | _, .non :: _, _, _, e => by cases e
  | _, .bl _ :: _, _, _, e => by cases e
  | _, .str _ :: _, _, _, e => by cases e
  | _, .tup _ :: _, _, _, e => by cases e
  | _, .lst _ :: _, _, _, e => by cases e
  | _, .fro _ :: _, _, _, e => by cases e
  | _, .fn _ :: _, _, _, e => by cases e
  | _, .exv _ _ :: _, _, _, e => by cases e
theorem bls_vw : ∀ {ws : List W} {ds : List D} {ns : List Bool}, Vws A m ws ds → blsV ds = some ns → bls ws = some ns
  | _, _, _, .nil, e => e
  | _, .bl _ :: _, _, .cons (.bl i) h, e => by
    have e : (blsV _).map (i :: ·) = some _ := e
    obtain ⟨ns, e1, e2⟩ := Option.map_eq_some_iff.mp e
    subst e2
    show (bls _).map (i :: ·) = _
    rw [bls_vw h e1]
    rfl
  | _, .non :: _, _, _, e => by cases e
  | _, .int _ :: _, _, _, e => by cases e
  | _, .str _ :: _, _, _, e => by cases e
  | _, .tup _ :: _, _, _, e => by cases e
  | _, .lst _ :: _, _, _, e => by cases e
  | _, .fro _ :: _, _, _, e => by cases e
  | _, .fn _ :: _, _, _, e => by cases e
  | _, .exv _ _ :: _, _, _, e => by cases e
end
def cmpV (g : Int → Int → Bool) (h : List Int → List Int → Bool) : P2 := fun a b => match a, b with
  | .int i, .int j => some (.bl (g i j))
  | .tup x, .tup y => (match intsV x, intsV y with
    | some ns, some ms => some (.bl (h ns ms))
    | _, _ => none)
  | _, _ => none
theorem q_cmpW (g : Int → Int → Bool) (h : List Int → List Int → Bool) : Q2 (cmpW g h) (cmpV g h) := by
  intro A m a b x y hb ha hy
  cases ha with
  | int i => cases hy with
    | int j => exact Gv.ret (.bl _)
    | _ => trivial
  | @tup ws ds hs => cases hy with
    | @tup us es hu =>
      show Gv A m (match intsW ws, intsW us with
        | some ns, some ms => some (.bl (h ns ms), m)
        | _, _ => none) (match intsV ds, intsV es with
        | some ns, some ms => some (.bl (h ns ms))
        | _, _ => none)
      cases e1 : intsV ds with
      | none => trivial
      | some ns => cases e2 : intsV es with
        | none => trivial
        | some ms =>
          rw [ints_vw hs e1, ints_vw hu e2]
          exact Gv.ret (.bl _)
    | _ => trivial
  | _ => trivial
def ltV : P2 := cmpV (fun i j => decide (i < j)) HT.lexLt
def leV : P2 := cmpV (fun i j => decide (i ≤ j)) lexLe
def gtV : P2 := cmpV (fun i j => decide (j < i)) lexGt
theorem q_ltW : Q2 ltW ltV := q_cmpW _ _
theorem q_leW : Q2 leW leV := q_cmpW _ _
theorem q_gtW : Q2 gtW gtV := q_cmpW _ _
def nonV : D → Bool
  | .non => true
  | _ => false
theorem non_vw {A : Nat → Prop} {m : Mem} {w : W} {d : D} (h : Vw A m w d) : isNon w = nonV d := by cases h <;> rfl
def isV : P2 := fun a b => match b with
  | .non => some (.bl (nonV a))
  | .bl b => (match a with
    | .bl a => some (.bl (decide (a = b)))
    | _ => none)
  | _ => none
def isnV : P2 := fun a b => match b with
  | .non => some (.bl (!nonV a))
  | .bl b => (match a with
    | .bl a => some (.bl (!decide (a = b)))
    | _ => none)
  | _ => none
theorem q_isW : Q2 isW isV := by
  intro A m a b x y hb ha hy
  cases hy with
  | non =>
    show Gv A m (isW a .non m) (some (.bl (nonV x)))
    rw [o_isN, non_vw ha]
    exact Gv.ret (.bl _)
  | bl b => cases ha <;> first | trivial | exact Gv.ret (.bl _)
  | _ => trivial
theorem q_isnW : Q2 isnW isnV := by
  intro A m a b x y hb ha hy
  cases hy with
  | non =>
    show Gv A m (isnW a .non m) (some (.bl (!nonV x)))
    rw [o_isnN, non_vw ha]
    exact Gv.ret (.bl _)
  | bl b => cases ha <;> first | trivial | exact Gv.ret (.bl _)
  | _ => trivial
def negV : P1 := fun a => match a with
  | .int i => some (.int (-i))
  | _ => none
theorem q_negW : Q1 negW negV := by
  intro A m a x hb ha
  cases ha with
  | int i => exact Gv.ret (.int _)
  | _ => trivial
theorem q_addW : Q2 addW addV := by
  intro A m a b x y hb ha hy
  cases ha with
  | int i => cases hy with
    | int j => exact Gv.ret (.int _)
    | _ => trivial
  | str i => cases hy with
    | str j =>
      show Gv A m (if _ then _ else _) (if _ then _ else _)
      split
      · exact Gv.ret (.str _)
      · trivial
    | _ => trivial
  | @tup ws ds hs => cases hy with
    | @tup us es hu =>
      show Gv A m (if ws.length + us.length ≤ 100000 then _ else _) (if ds.length + es.length ≤ 100000 then _ else _)
      rw [hs.length, hu.length]
      split
      · exact Gv.ret (.tup (hs.append hu))
      · trivial
    | _ => trivial
  | @lst k ws ds _ hk hs => cases hy with
    | @lst j us es _ hj hu =>
      show Gv A m (match lstOf m k, lstOf m j with
        | some x, some y => if x.length + y.length ≤ 100000 then some (.ref m.length, m ++ [.lst (x ++ y)]) else none
        | _, _ => none) (if ds.length + es.length ≤ 100000 then _ else _)
      rw [lstOf_lst hk, lstOf_lst hj, ← hs.length, ← hu.length]
      dsimp only
      split
      · exact Gv.new hb (hs.append hu)
      · trivial
    | _ => trivial
  | _ => trivial
def mulV : P2 := fun a b => match a, b with
  | .int i, .int j => if (-big < i ∧ i < big) ∨ (-big < j ∧ j < big) then some (.int (i * j)) else none
  | .lst x, .int k => if -100000 ≤ k ∧ k ≤ 100000 ∧ x.length * k.toNat ≤ 100000 then some (.lst (List.replicate k.toNat x).flatten) else none
  | .tup x, .int k => if x.isEmpty = false ∧ 2 ≤ k ∧ k ≤ 1000 ∧ x.length ≤ 1000 then some (.tup (List.replicate k.toNat x).flatten) else none
  | _, _ => none
theorem ne_nil_iff {α : Type} {l : List α} : l ≠ [] ↔ l.isEmpty = false := by cases l <;> simp
theorem q_mulW : Q2 mulW mulV := by
  intro A m a b x y hb ha hy
  cases ha with
  | int i => cases hy with
    | int j =>
      show Gv A m (if _ then _ else _) (if _ then _ else _)
      split
      · exact Gv.ret (.int _)
      · trivial
    | _ => trivial
  | @tup ws ds hs => cases hy with
    | int k =>
      show Gv A m (if ws ≠ [] ∧ 2 ≤ k ∧ k ≤ 1000 ∧ ws.length ≤ 1000 then _ else _) (if ds.isEmpty = false ∧ 2 ≤ k ∧ k ≤ 1000 ∧ ds.length ≤ 1000 then _ else _)
      by_cases c : ds.isEmpty = false ∧ 2 ≤ k ∧ k ≤ 1000 ∧ ds.length ≤ 1000
      · rw [if_pos c, if_pos ⟨ne_nil_iff.mpr (hs.empty ▸ c.1), c.2.1, c.2.2.1, hs.length ▸ c.2.2.2⟩]
        exact Gv.ret (.tup (hs.rep _))
      · rw [if_neg c]
        trivial
    | _ => trivial
  | @lst j ws ds _ hk hs => cases hy with
    | int k =>
      show Gv A m (match lstOf m j with
        | some x => if -100000 ≤ k ∧ k ≤ 100000 ∧ x.length * k.toNat ≤ 100000 then some (.ref m.length, m ++ [.lst (List.replicate k.toNat x).flatten]) else none
        | none => none) (if -100000 ≤ k ∧ k ≤ 100000 ∧ ds.length * k.toNat ≤ 100000 then _ else _)
      rw [lstOf_lst hk, ← hs.length]
      dsimp only
      split
      · exact Gv.new hb (hs.rep _)
      · trivial
    | _ => trivial
  | _ => trivial

/-! ### built-ins -/
def tupV : PN := fun ds => if ds.length ≤ 100000 then some (.tup ds) else none
def lstV : PN := fun ds => if ds.length ≤ 100000 then some (.lst ds) else none
theorem q_tupW : QN tupW tupV := fun A m a x hb h => by
  unfold tupW tupV
  rw [h.length]
  split
  · exact Gv.ret (.tup h)
  · trivial
theorem q_lstW : QN lstW lstV := fun A m a x hb h => by
  unfold lstW lstV
  rw [h.length]
  split
  · exact Gv.new hb h
  · trivial
def one1V (g : List D → D) : PN := fun ds => match ds with
  | [d] => (seqV d).map g
  | _ => none
def tupleV : PN := one1V .tup
def listV : PN := one1V .lst
theorem q_one1 {g : List W → Mem → W × Mem} {g' : List D → D} (h : ∀ A m ws ds, Bd A m → Vws A m ws ds → Gv A m (some (g ws m)) (some (g' ds))) : QN (one1 g) (one1V g') := by
  intro A m a x hb hx
  cases hx with
  | nil => trivial
  | @cons w ws d ds h1 h2 => cases h2 with
    | nil =>
      show Gv A m ((seqOf m w).map fun l => g l m) ((seqV d).map g')
      cases e : seqV d with
      | none => trivial
      | some l =>
        obtain ⟨us, e1, e2⟩ := seq_vw h1 e
        rw [e1]
        exact h A m us l hb e2
    | cons _ _ => trivial
theorem q_tupleW : QN tupleW tupleV := q_one1 fun A m ws ds hb h => Gv.ret (.tup h)
theorem q_listW : QN listW listV := q_one1 fun A m ws ds hb h => Gv.new hb h
def lenV : PN := fun ds => match ds with
  | [.str z] => if z.length ≤ 100000 then some (.int z.length) else none
  | [d] => (seqV d).map fun l => .int l.length
  | _ => none
theorem q_lenW : QN lenW lenV := by
  intro A m a x hb hx
  cases hx with
  | nil => trivial
  | @cons w ws d ds h1 h2 => cases h2 with
    | cons _ _ => cases h1 <;> trivial
    | nil => cases h1 with
      | str z =>
        show Gv A m (if _ then _ else _) (if _ then _ else _)
        split
        · exact Gv.ret (.int _)
        · trivial
      | @tup ws ds hs =>
        show Gv A m (some (.int ws.length, m)) (some (.int ds.length))
        rw [hs.length]
        exact Gv.ret (.int _)
      | @lst k ws ds _ hk hs =>
        show Gv A m ((seqAt m k).map fun l => (.int l.length, m)) (some (.int ds.length))
        rw [seqAt_lst hk, ← hs.length]
        exact Gv.ret (.int _)
      | @fro k ws ds _ hk hs =>
        show Gv A m ((seqAt m k).map fun l => (.int l.length, m)) (some (.int ds.length))
        rw [seqAt_fro hk, ← hs.length]
        exact Gv.ret (.int _)
      | _ => trivial
def max2V : PN := fun ws => match ws with
  | [.int i, .int j] => some (.int (if j > i then j else i))
  | _ => none
def min2V : PN := fun ws => match ws with
  | [.int i, .int j] => some (.int (if j < i then j else i))
  | _ => none
def intV : PN := fun ws => match ws with
  | [.int i] => some (.int i)
  | [.bl b] => some (.int (if b then 1 else 0))
  | _ => none
def strV : PN := fun ws => match ws with
  | [.int i] => if i.natAbs.log2 < 1920 then some (.str (toString i)) else none
  | _ => none
theorem q_max2W : QN max2W max2V := by
  intro A m a x hb hx
  cases hx with
  | nil => trivial
  | cons h1 h2 => cases h2 with
    | nil => cases h1 <;> trivial
    | cons h2 h3 => cases h3 with
      | nil => cases h1 <;> cases h2 <;> first | trivial | exact Gv.ret (.int _)
      | cons _ _ => cases h1 <;> cases h2 <;> trivial
theorem q_min2W : QN min2W min2V := by
  intro A m a x hb hx
  cases hx with
  | nil => trivial
  | cons h1 h2 => cases h2 with
    | nil => cases h1 <;> trivial
    | cons h2 h3 => cases h3 with
      | nil => cases h1 <;> cases h2 <;> first | trivial | exact Gv.ret (.int _)
      | cons _ _ => cases h1 <;> cases h2 <;> trivial
theorem q_intW : QN intW intV := by
  intro A m a x hb hx
  cases hx with
  | nil => trivial
  | cons h1 h2 => cases h2 with
    | nil => cases h1 <;> first | trivial | exact Gv.ret (.int _)
    | cons _ _ => cases h1 <;> trivial
theorem q_strW : QN strW strV := by
  intro A m a x hb hx
  cases hx with
  | nil => trivial
  | cons h1 h2 => cases h2 with
    | nil => cases h1 with
      | int i =>
        show Gv A m (if _ then _ else _) (if _ then _ else _)
        split
        · exact Gv.ret (.str _)
        · trivial
      | _ => trivial
    | cons _ _ => cases h1 <;> trivial
/-- a list's items as ints, as truths -/
def onL {α : Type} (f : List D → Option α) (g : α → Option D) : PN := fun ws => match ws with
  | [.lst l] => (f l).bind g
  | [.fro l] => (f l).bind g
  | _ => none
def allV : PN := onL blsV fun bs => some (.bl (bs.all id))
def sumV : PN := onL intsV fun ns => some (.int ns.sum)
def maxV : PN := onL intsV fun ns => (most ns).map .int
def minV : PN := onL intsV fun ns => (least ns).map .int
theorem q_onL {α : Type} {f : List D → Option α} {f' : List W → Option α} {g : α → Option D} {h : OpN} (hf : ∀ A m ws ds a, Vws A m ws ds → f ds = some a → f' ws = some a)
    (hh : ∀ A m k ws a, seqAt m k = some ws → f' ws = some a → Gv A m (h [.ref k] m) (g a)) : QN h (onL f g) := by
  intro A m a x hb hx
  cases hx with
  | nil => trivial
  | cons h1 h2 => cases h2 with
    | cons _ _ => cases h1 <;> trivial
    | nil => cases h1 with
      | @lst k ws ds _ hk hs =>
        show Gv A m _ ((f ds).bind g)
        cases e : f ds with
        | none => trivial
        | some a => exact hh A m k ws a (seqAt_lst hk) (hf A m ws ds a hs e)
      | @fro k ws ds _ hk hs =>
        show Gv A m _ ((f ds).bind g)
        cases e : f ds with
        | none => trivial
        | some a => exact hh A m k ws a (seqAt_fro hk) (hf A m ws ds a hs e)
      | _ => trivial
theorem q_allW : QN allW allV := q_onL (f' := bls) (fun A m ws ds a h e => bls_vw h e) fun A m k ws a h1 h2 => by
  show Gv A m (match (seqAt m k).bind bls with
    | some bs => some (.bl (bs.all id), m)
    | none => none) _
  rw [h1]
  show Gv A m (match bls ws with
    | some bs => some (.bl (bs.all id), m)
    | none => none) _
  rw [h2]
  exact Gv.ret (.bl _)
theorem q_sumW : QN sumW sumV := q_onL (f' := intsW) (fun A m ws ds a h e => ints_vw h e) fun A m k ws a h1 h2 => by
  show Gv A m (match (seqAt m k).bind intsW with
    | some bs => some (.int bs.sum, m)
    | none => none) _
  rw [h1]
  show Gv A m (match intsW ws with
    | some bs => some (.int bs.sum, m)
    | none => none) _
  rw [h2]
  exact Gv.ret (.int _)
theorem q_maxW : QN maxW maxV := q_onL (f' := intsW) (fun A m ws ds a h e => ints_vw h e) fun A m k ws a h1 h2 => by
  show Gv A m (match (seqAt m k).bind intsW with
    | some ns => (most ns).map fun i => (.int i, m)
    | none => none) _
  rw [h1]
  show Gv A m (match intsW ws with
    | some ns => (most ns).map fun i => (.int i, m)
    | none => none) _
  rw [h2]
  show Gv A m ((most a).map fun i => (.int i, m)) _
  cases most a with
  | none => trivial
  | some i => exact Gv.ret (.int _)
theorem q_minW : QN minW minV := q_onL (f' := intsW) (fun A m ws ds a h e => ints_vw h e) fun A m k ws a h1 h2 => by
  show Gv A m (match (seqAt m k).bind intsW with
    | some ns => (least ns).map fun i => (.int i, m)
    | none => none) _
  rw [h1]
  show Gv A m (match intsW ws with
    | some ns => (least ns).map fun i => (.int i, m)
    | none => none) _
  rw [h2]
  show Gv A m ((least a).map fun i => (.int i, m)) _
  cases least a with
  | none => trivial
  | some i => exact Gv.ret (.int _)
def showV (d : D) : Option Str := match toP deep d with
  | some d => if d.showable = true ∧ d.hasDict = false ∧ d.shown.length ≤ 100000 ∧ d.depth ≤ 30 then some d.shown else none
  | none => none
def reprV : PN := fun ws => match ws with
  | [.int i] => if i.natAbs.log2 < 1920 then some (.str (toString i)) else none
  | [d] => (showV d).map .str
  | _ => none
theorem show_vw {A : Nat → Prop} {m : Mem} {w : W} {d : D} {x : Str} (h : Vw A m w d) (e : showV d = some x) : showW m w = some x := by
  unfold showV at e
  unfold showW
  cases q : toP deep d with
  | none => rw [q] at e; cases e
  | some p =>
    rw [q] at e
    rw [toP_vw _ _ _ _ h q]
    exact e
theorem q_reprW : QN reprW reprV := by
  intro A m a x hb hx
  have go : ∀ {w : W} {d : D}, Vw A m w d → Gv A m ((showW m w).map fun z => (.str z, m)) ((showV d).map .str) := fun {w d} h => by
    cases e : showV d with
    | none => trivial
    | some z =>
      rw [show_vw h e]
      exact Gv.ret (.str z)
  cases hx with
  | nil => trivial
  | cons h1 h2 => cases h2 with
    | cons _ _ => cases h1 <;> trivial
    | nil => cases h1 with
      | int i =>
        show Gv A m (if _ then _ else _) (if _ then _ else _)
        split
        · exact Gv.ret (.str _)
        · trivial
      | non => exact go .non
      | bl b => exact go (.bl b)
      | str b => exact go (.str b)
      | tup h => exact go (.tup h)
      | lst a b h => exact go (.lst a b h)
      | fro a b h => exact go (.fro a b h)
      | fn b => exact go (.fn b)
      | @exv c ws ds h => exact go (.exv (c := c) h)

/-! ### subscripts -/
def atV (l : List D) (i : Int) : Option D := if 0 ≤ i then l[i.toNat]? else if -i ≤ l.length then l[(l.length + i).toNat]? else none
def ixV : P2 := fun a b => match b with
  | .int i => (match a with
    | .str z => if z.length ≤ 100000 then (atI z.cps.toList i).map fun c => .str ⟨#[c]⟩ else none
    | a => (match seqV a with
      | some l => atV l i
      | none => none))
  | _ => none
theorem at_vw {A : Nat → Prop} {m : Mem} {ws : List W} {ds : List D} {i : Int} {d : D} (h : Vws A m ws ds) (e : atV ds i = some d) : ∃ w, atW ws i = some w ∧ Vw A m w d := by
  unfold atV at e
  unfold atW
  rw [h.length]
  by_cases c : 0 ≤ i
  · rw [if_pos c] at e ⊢
    exact h.get e
  · rw [if_neg c] at e ⊢
    by_cases c2 : -i ≤ ds.length
    · rw [if_pos c2] at e ⊢
      exact h.get e
    · rw [if_neg c2] at e
      cases e
theorem q_ixW : Q2 ixW ixV := by
  intro A m a b x y hb ha hy
  cases hy with
  | int i =>
    have go : ∀ {ws : List W} {ds : List D}, Vws A m ws ds → Gv A m ((atW ws i).map fun w => (w, m)) (atV ds i) := fun {ws ds} h => by
      cases e : atV ds i with
      | none => trivial
      | some d =>
        obtain ⟨w, h1, h2⟩ := at_vw h e
        rw [h1]
        exact Gv.ret h2
    cases ha with
    | str z =>
      show Gv A m (if _ then _ else _) (if _ then _ else _)
      split
      · cases atI z.cps.toList i with
        | none => trivial
        | some c => exact Gv.ret (.str _)
      · trivial
    | tup hs => exact go hs
    | @lst k ws ds _ hk hs =>
      show Gv A m (match seqAt m k with
        | some l => (atW l i).map fun w => (w, m)
        | none => none) _
      rw [seqAt_lst hk]
      exact go hs
    | @fro k ws ds _ hk hs =>
      show Gv A m (match seqAt m k with
        | some l => (atW l i).map fun w => (w, m)
        | none => none) _
      rw [seqAt_fro hk]
      exact go hs
    | _ => trivial
  | _ => trivial
def cutD (l : List D) (lo hi : Option Int) : List D := (l.drop (HT.sIx l.length 0 lo)).take (HT.sIx l.length l.length hi - HT.sIx l.length 0 lo)
theorem Vws.cut {A : Nat → Prop} {m : Mem} {ws : List W} {ds : List D} (h : Vws A m ws ds) (lo hi : Option Int) : Vws A m (cutW ws lo hi) (cutD ds lo hi) := by
  unfold cutW cutD
  rw [h.length]
  exact (h.drop _).take _
def slV (lo hi : Option Int) : P1 := fun a => match a with
  | .tup l => some (.tup (cutD l lo hi))
  | .lst l => some (.lst (cutD l lo hi))
  | .fro l => some (.lst (cutD l lo hi))
  | _ => none
theorem q_slW (lo hi : Option Int) : Q1 (slW lo hi) (slV lo hi) := by
  intro A m a x hb ha
  cases ha with
  | tup hs => exact Gv.ret (.tup (hs.cut lo hi))
  | @lst k ws ds _ hk hs =>
    show Gv A m (match seqAt m k with
      | some l => some (.ref m.length, m ++ [.lst (cutW l lo hi)])
      | none => none) _
    rw [seqAt_lst hk]
    exact Gv.new hb (hs.cut lo hi)
  | @fro k ws ds _ hk hs =>
    show Gv A m (match seqAt m k with
      | some l => some (.ref m.length, m ++ [.lst (cutW l lo hi)])
      | none => none) _
    rw [seqAt_fro hk]
    exact Gv.new hb (hs.cut lo hi)
  | _ => trivial
abbrev VO := VEnv → OEnv → Ro (Option Int)
def vNo : VO := fun _ _ => .ok none
def vAt (q : VE) : VO := fun v o => (q v o).bind fun d => match d with
  | .int i => .ok (some i)
  | _ => .bad
def vSl (q : VE) (lo hi : VO) : VE := fun v o => (q v o).bind fun a => (lo v o).bind fun l => (hi v o).bind fun h => ofO (slV l h a)
def VOI : Mem → Option Int → Option Int → Prop := fun _ a b => a = b
def QO (e : DO) (q : VO) : Prop := ∀ A env m v o, Bd A m → RQ A env m v o → Qo A m VOI (e env m) (q v o)
theorem q_no : QO oNo vNo := fun A env m v o hb R => Qo.ret rfl
theorem q_at {a : DE} {qa : VE} (h : QE a qa) : QO (oAt a) (vAt qa) := fun A env m v o hb R => Qo.bind (h A env m v o hb R) fun r x dx hx => by
  cases hx with
  | int i => exact Qo.ret rfl
  | _ => trivial
theorem q_sl {a : DE} {qa : VE} {lo hi : DO} {ql qh : VO} (h : QE a qa) (hl : QO lo ql) (hh : QO hi qh) : QE (dSl a lo hi) (vSl qa ql qh) := fun A env m v o hb R =>
  Qo.bind (h A env m v o hb R) fun r x dx hx => Qo.bind (hl A env _ v o (hb.app r) (R.app r)) fun r2 y dy hy => Qo.bind (hh A env _ v o ((hb.app r).app r2) ((R.app r).app r2)) fun r3 z dz hz => by
    cases (show y = dy from hy)
    cases (show z = dz from hz)
    exact (q_slW y z A _ x dx (((hb.app r).app r2).app r3) (hx.mono ((Kp.app _ _ _).trans (Kp.app _ _ _)))).lift

/-! ### isinstance, methods that only read -/
def Ty.hasV (t : Ty) : D → Option Bool
  | .non => some false
  | .bl _ => some (t.is .int || t.is .bool)
  | .int _ => some (t.is .int)
  | .str _ => some (t.is .str)
  | .tup _ => some (t.is .tuple)
  | .lst _ => some (t.is .list)
  | .fro _ => some (t.is .list)
  | _ => none
def vIsi (t : Ty) (q : VE) : VE := fun v o => (q v o).bind fun d => ofO ((t.hasV d).map .bl)
theorem has_vw {A : Nat → Prop} {m : Mem} {t : Ty} {w : W} {d : D} {b : Bool} (h : Vw A m w d) (e : t.hasV d = some b) : t.has w m = some b := by
  cases h with
  | @lst k ws ds _ hk hs =>
    show (if (seqAt m k).isSome then some (t.is .list) else none) = some b
    rw [seqAt_lst hk]
    exact e
  | @fro k ws ds _ hk hs =>
    show (if (seqAt m k).isSome then some (t.is .list) else none) = some b
    rw [seqAt_fro hk]
    exact e
  | fn _ => cases e
  | exv _ => cases e
  | _ => exact e
theorem q_isi {t : Ty} {a : DE} {qa : VE} (h : QE a qa) : QE (dIsi t a) (vIsi t qa) := fun A env m v o hb R => Qo.bind (h A env m v o hb R) fun r x dx hx => by
  cases e : t.hasV dx with
  | none => trivial
  | some b =>
    rw [has_vw hx e]
    exact Qo.ret (.bl b)
abbrev PM := List D → List D → Option D
def vBM (g : PM) (a : VE) (as : VA) : VE := fun v o => (a v o).bind fun d => match d with
  | .lst l => (as v o).bind fun xs => ofO (g l xs)
  | _ => .bad
def QM (f : OpM) (g : PM) : Prop := ∀ A m k ws l us xs, Bd A m → m[k]? = some (.lst ws) → Vws A m ws l → Vws A m us xs → Gv A m (f (.ref k) us m) (g l xs)
theorem q_bm {f : OpM} {g : PM} {a : DE} {qa : VE} {as : DA} {qs : VA} (hf : QM f g) (h : QE a qa) (hs : QA as qs) : QE (dBM .list f a as) (vBM g qa qs) := fun A env m v o hb R => Qo.bind (h A env m v o hb R) fun r x dx hx => by
  cases hx with
  | @lst k ws ds na hk hv =>
    rw [if_pos (show Rc.list.ok (.ref k) (m ++ r) = true by rw [r_lst, seqAt_lst hk]; rfl)]
    exact Qo.bind (hs A env _ v o (hb.app r) (R.app r)) fun r2 y dy hy => (hf A _ k ws ds y dy ((hb.app r).app r2) (get_app hk) (hv.mono (Kp.app _ _ _)) hy).lift
  | _ => trivial
def dataOfV (l : List D) (ws : List D) : Option (List PyData × PyData) := match ws with
  | [y] => (match sq (l.map (toP deep)), toP deep y with
    | some ds, some d => if SeqAt.shaped (.list ds) = true ∧ SeqAt.shaped d = true then some (ds, d) else none
    | _, _ => none)
  | _ => none
def indexV : PM := fun l ws => match dataOfV l ws with
  | some (ds, d) => (ds.findIdx? fun z => PyData.eqv z d).map fun j => .int j
  | none => none
def countV : PM := fun l ws => match dataOfV l ws with
  | some (ds, d) => some (.int (ds.countP fun z => PyData.eqv z d))
  | none => none
theorem data_vw {A : Nat → Prop} {m : Mem} {k : Nat} {ws us : List W} {l xs : List D} {p : List PyData × PyData} (hk : m[k]? = some (.lst ws)) (hl : Vws A m ws l) (hu : Vws A m us xs) (e : dataOfV l xs = some p) : dataOf m (.ref k) us = some p := by
  unfold dataOfV at e
  split at e
  · rename_i y
    cases hu with
    | cons h1 h2 => cases h2
                    show (match seqD m (.ref k), toD m deep _ with
                      | some ds, some d => if SeqAt.shaped (.list ds) = true ∧ SeqAt.shaped d = true then some (ds, d) else none
                      | _, _ => none) = _
                    cases e1 : sq (l.map (toP deep)) with
                    | none => rw [e1] at e; cases e
                    | some ds => cases e2 : toP deep y with
                      | none => rw [e1, e2] at e; cases e
                      | some d =>
                        rw [e1, e2] at e
                        rw [toP_vw _ _ _ _ h1 e2, show seqD m (.ref k) = some ds by
                          unfold seqD
                          dsimp only
                          rw [seqAt_lst hk]
                          exact toPs_vw (toP_vw deep) ws l ds hl e1]
                        exact e
  · cases e
theorem q_indexW : QM indexW indexV := fun A m k ws l us xs hb hk hl hu => by
  unfold indexV
  cases e : dataOfV l xs with
  | none => trivial
  | some p =>
    obtain ⟨ds, d⟩ := p
    unfold indexW
    rw [data_vw hk hl hu e]
    dsimp only
    cases ds.findIdx? fun z => PyData.eqv z d with
    | none => trivial
    | some j => exact Gv.ret (.int _)
theorem q_countW : QM countW countV := fun A m k ws l us xs hb hk hl hu => by
  unfold countV
  cases e : dataOfV l xs with
  | none => trivial
  | some p =>
    obtain ⟨ds, d⟩ := p
    unfold countW
    rw [data_vw hk hl hu e]
    exact Gv.ret (.int _)
/-- where a list may be written -/
theorem Gv.of_if {A : Nat → Prop} {m : Mem} {c : Prop} [Decidable c] {x : Option (W × Mem)} {y : Option D} (h : c → Gv A m x y) : Gv A m (if c then x else none) (if c then y else none) := by
  by_cases e : c
  · rw [if_pos e, if_pos e]
    exact h e
  · rw [if_neg e, if_neg e]
    trivial
end Nw
set_option Elab.async false
set_option linter.all false
set_option maxRecDepth 100000
set_option maxHeartbeats 1000000
namespace Nw
open PySem PySem.Spec PyProof.Rows L2

/-! ### what is walked -/
abbrev VI := VEnv → OEnv → Ro (List D)
def ItemOk (A : Nat → Prop) (m : Mem) (ow : Option W) : Option D → Prop
  | some d => ∃ w, ow = some w ∧ Vw A m w d
  | none => ow = none
def SrcOk (A : Nat → Prop) (m : Mem) (s : Src) (items : List D) : Prop := turnsS s m = items.length ∧
  ∀ A' m', Kp A m A' m' → ∀ i, i ≤ items.length → ∃ ow, nextS s i m' = some ow ∧ ItemOk A' m' ow items[i]?
def QI (e : DI) (q : VI) : Prop := ∀ A env m v o, Bd A m → RQ A env m v o → Qo A m (fun m s l => SrcOk A m s l) (e env m) (q v o)
def rngD (lo : Int) (n : Nat) : List D := (List.range n).map fun k : Nat => .int (lo + (k : Int))
def vIs (q : VE) : VI := fun v o => (q v o).bind fun d => ofO (seqV d)
def vRng1 (a : VA) : VI := fun v o => (a v o).bind fun ws => match ws with
  | [.int j] => if -1000000 ≤ j ∧ j ≤ 1000000 then .ok (rngD 0 j.toNat) else .bad
  | _ => .bad
def vRng2 (a : VA) : VI := fun v o => (a v o).bind fun ws => match ws with
  | [.int i, .int j] => if -1000000 ≤ i ∧ i ≤ 1000000 ∧ -1000000 ≤ j ∧ j ≤ 1000000 then .ok (rngD i (j - i).toNat) else .bad
  | _ => .bad
theorem item_of {A : Nat → Prop} {m : Mem} {ws : List W} {ds : List D} (h : Vws A m ws ds) (i : Nat) : ItemOk A m ws[i]? ds[i]? := by
  cases e : ds[i]? with
  | none =>
    show ws[i]? = none
    rw [List.getElem?_eq_none_iff, h.length]
    exact List.getElem?_eq_none_iff.mp e
  | some d =>
    obtain ⟨w, h1, h2⟩ := h.get e
    exact ⟨w, h1, h2⟩
theorem src_lst {A : Nat → Prop} {m : Mem} {k : Nat} {o : O} {ws : List W} {ds : List D} (na : ¬ A k) (hk : m[k]? = some o) (ho : ∀ m', m'[k]? = some o → seqAt m' k = some ws) (h : Vws A m ws ds) : SrcOk A m (.lst k) ds := by
  refine ⟨?_, fun A' m' kp i hi => ⟨ws[i]?, ?_, item_of (h.mono kp) i⟩⟩
  · show ((seqAt m k).getD []).length = _
    rw [ho m hk]
    exact h.length
  · show (seqAt m' k).map (fun l => l[i]?) = _
    rw [ho m' (kp k o na hk).2]
    rfl
theorem src_rng (A : Nat → Prop) (m : Mem) (lo : Int) (n : Nat) : SrcOk A m (.rng lo n) (rngD lo n) := by
  refine ⟨by show n = _; unfold rngD; rw [List.length_map, List.length_range], fun A' m' kp i hi => ⟨_, rfl, ?_⟩⟩
  unfold rngD at hi ⊢
  rw [List.length_map, List.length_range] at hi
  by_cases c : i < n
  · rw [if_pos c, List.getElem?_map, List.getElem?_range c]
    exact ⟨_, rfl, .int _⟩
  · rw [if_neg c, List.getElem?_eq_none (by rw [List.length_map, List.length_range]; omega)]
    rfl
section
variable {a : DE} {qa : VE} {as : DA} {qs : VA}
theorem q_is (h : QE a qa) : QI (dIs a) (vIs qa) := fun A env m v o hb R => Qo.bind (h A env m v o hb R) fun r x dx hx => by
  cases hx with
  | @tup ws ds hs =>
    refine Qo.ret ⟨hs.length, fun A' m' kp i hi => ⟨ws[i]?, rfl, item_of (hs.mono kp) i⟩⟩
  | @lst k ws ds na hk hs =>
    dsimp only
    rw [seqAt_lst hk]
    exact Qo.ret (src_lst na hk (fun m' h => seqAt_lst h) hs)
  | @fro k ws ds na hk hs =>
    dsimp only
    rw [seqAt_fro hk]
    exact Qo.ret (src_lst na hk (fun m' h => seqAt_fro h) hs)
  | _ => trivial
theorem q_rng1 (h : QA as qs) : QI (dRng1 as) (vRng1 qs) := fun A env m v o hb R => Qo.bind (h A env m v o hb R) fun r x dx hx => by
  cases hx with
  | nil => trivial
  | cons h1 h2 => cases h2 with
    | cons _ _ => cases h1 <;> trivial
    | nil => cases h1 with
      | int j =>
        dsimp only
        split
        · exact Qo.ret (src_rng _ _ _ _)
        · trivial
      | _ => trivial
theorem q_rng2 (h : QA as qs) : QI (dRng2 as) (vRng2 qs) := fun A env m v o hb R => Qo.bind (h A env m v o hb R) fun r x dx hx => by
  cases hx with
  | nil => trivial
  | cons h1 h2 => cases h2 with
    | nil => cases h1 <;> trivial
    | cons h2 h3 => cases h3 with
      | cons _ _ => cases h1 <;> cases h2 <;> trivial
      | nil => cases h1 with
        | int i => cases h2 with
          | int j =>
            dsimp only
            split
            · exact Qo.ret (src_rng _ _ _ _)
            · trivial
          | _ => trivial
        | _ => cases h2 <;> trivial
end

/-! ### targets -/
abbrev VG := D → VEnv → OEnv → Ro (VEnv × OEnv)
abbrev VGs := List D → VEnv → OEnv → Ro (VEnv × OEnv)
def vgN (i : Nat) : VG := fun d v o => .ok (v.set i (some d), o.set i none)
def vgNl : VGs := fun ds v o => match ds with
  | [] => .ok (v, o)
  | _ => .bad
def vgC (g : VG) (gs : VGs) : VGs := fun ds v o => match ds with
  | d :: r => (g d v o).bind fun p => gs r p.1 p.2
  | [] => .bad
def vgT (n : Nat) (g : VGs) : VG := fun d v o => match d with
  | .tup l => if l.length = n then g l v o else .bad
  | _ => .bad
inductive Sets (A : Nat → Prop) (m : Mem) : Env → VEnv → OEnv → Env → VEnv → OEnv → Prop
  | refl (env : Env) (v : VEnv) (o : OEnv) : Sets A m env v o env v o
  | step {env : Env} {v : VEnv} {o : OEnv} {e' : Env} {v' : VEnv} {o' : OEnv} (i : Nat) {w : W} {d : D} : Vw A m w d → Sets A m (env.set i (some w)) (v.set i (some d)) (o.set i none) e' v' o' → Sets A m env v o e' v' o'
theorem Sets.trans {A : Nat → Prop} {m : Mem} {e1 e2 e3 : Env} {v1 v2 v3 : VEnv} {o1 o2 o3 : OEnv} (h : Sets A m e1 v1 o1 e2 v2 o2) (h2 : Sets A m e2 v2 o2 e3 v3 o3) : Sets A m e1 v1 o1 e3 v3 o3 := by
  induction h with
  | refl => exact h2
  | step i hv _ ih => exact .step i hv (ih h2)
def GQ (g : DG) (q : VG) : Prop := ∀ A m w d env v o, Vw A m w d → match q d v o with
  | .ok p => ∃ env2, g w env m = .ok env2 m ∧ Sets A m env v o env2 p.1 p.2
  | _ => True
def GQs (g : DGs) (q : VGs) : Prop := ∀ A m w d env v o, Vws A m w d → match q d v o with
  | .ok p => ∃ env2, g w env m = .ok env2 m ∧ Sets A m env v o env2 p.1 p.2
  | _ => True
theorem g_nam (i : Nat) : GQ (gNam i) (vgN i) := fun A m w d env v o h => ⟨_, rfl, .step i h (.refl _ _ _)⟩
theorem g_nl : GQs gNl vgNl := fun A m w d env v o h => by
  cases h with
  | nil => exact ⟨_, rfl, .refl _ _ _⟩
  | cons _ _ => trivial
theorem g_cn {g : DG} {q : VG} {gs : DGs} {qs : VGs} (h : GQ g q) (hs : GQs gs qs) : GQs (gCn g gs) (vgC q qs) := fun A m w d env v o hw => by
  cases hw with
  | nil => trivial
  | @cons w ws d ds h1 h2 =>
    have a := h A m w d env v o h1
    show (match (q d v o).bind fun p => qs ds p.1 p.2 with
      | .ok p => _
      | _ => True)
    cases e : q d v o with
    | bad => trivial
    | exc _ _ => trivial
    | ok p =>
      rw [e] at a
      obtain ⟨env2, e1, s1⟩ := a
      have b := hs A m ws ds env2 p.1 p.2 h2
      show (match qs ds p.1 p.2 with
        | .ok p => _
        | _ => True)
      cases e' : qs ds p.1 p.2 with
      | bad => trivial
      | exc _ _ => trivial
      | ok p2 =>
        rw [e'] at b
        obtain ⟨env3, e3, s3⟩ := b
        exact ⟨env3, s_gcn e1 e3, s1.trans s3⟩
theorem g_tp {n : Nat} {gs : DGs} {qs : VGs} (hs : GQs gs qs) : GQ (gTp n gs) (vgT n qs) := fun A m w d env v o hw => by
  cases hw with
  | @tup ws ds h =>
    show (match (if ds.length = n then qs ds v o else .bad) with
      | .ok p => ∃ env2, (if ws.length = n then gs ws env m else .bad) = .ok env2 m ∧ _
      | _ => True)
    rw [h.length]
    by_cases c : ds.length = n
    · rw [if_pos c, if_pos c]
      exact hs A m ws ds env v o h
    · rw [if_neg c]
      trivial
  | _ => trivial

/-! ### the quiet reading of slots, with lengths -/
theorem RQ.set {A : Nat → Prop} {env : Env} {m : Mem} {v : VEnv} {o : OEnv} (R : RQ A env m v o) {w : W} {d : D} (h : Vw A m w d) (i : Nat) : RQ A (env.set i (some w)) m (v.set i (some d)) (o.set i none) := by
  refine ⟨by rw [List.length_set, List.length_set]; exact R.lv, fun j d' e => ?_, fun j l e => ?_⟩
  · by_cases hj : i = j
    · subst hj
      have hi : i < v.length := by
        have := (List.getElem?_eq_some_iff.mp e).1
        simpa using this
      rw [List.getElem?_set_self hi] at e
      cases e
      exact ⟨w, by rw [List.getElem?_set_self (Nat.lt_of_lt_of_le hi R.lv)], h⟩
    · rw [List.getElem?_set_ne hj] at e ⊢
      exact R.vw j d' e
  · by_cases hj : i = j
    · subst hj
      have hi : i < o.length := by
        have := (List.getElem?_eq_some_iff.mp e).1
        simpa using this
      rw [List.getElem?_set_self hi] at e
      cases e
    · rw [List.getElem?_set_ne hj] at e ⊢
      exact R.ow j l e
theorem RQ.sets {A : Nat → Prop} {env : Env} {m : Mem} {v : VEnv} {o : OEnv} {env2 : Env} {v2 : VEnv} {o2 : OEnv} (s : Sets A m env v o env2 v2 o2) : RQ A env m v o → RQ A env2 m v2 o2 := by
  induction s with
  | refl => exact id
  | step i h _ ih => exact fun R => ih (R.set h i)
def wipeV : VEnv → List Nat → VEnv
  | v, [] => v
  | v, i :: is => (wipeV v is).set i none
def wipeO : OEnv → List Nat → OEnv
  | v, [] => v
  | v, i :: is => (wipeO v is).set i none
theorem set_none_get {α : Type} {l : List (Option α)} {i j : Nat} {x : α} (e : (l.set i none)[j]? = some (some x)) : i ≠ j ∧ l[j]? = some (some x) := by
  by_cases hj : i = j
  · subst hj
    have hi : i < l.length := by
      have := (List.getElem?_eq_some_iff.mp e).1
      simpa using this
    rw [List.getElem?_set_self hi] at e
    cases e
  · rw [List.getElem?_set_ne hj] at e
    exact ⟨hj, e⟩
theorem RQ.wipe {A : Nat → Prop} {env : Env} {m : Mem} {v : VEnv} {o : OEnv} (R : RQ A env m v o) : ∀ vs : List Nat, RQ A (wipeE env vs) m (wipeV v vs) (wipeO o vs)
  | [] => R
  | i :: vs => by
    have R2 := RQ.wipe R vs
    refine ⟨by show ((wipeV v vs).set i none).length ≤ ((wipeE env vs).set i none).length; rw [List.length_set, List.length_set]; exact R2.lv, fun j d e => ?_, fun j l e => ?_⟩
    · obtain ⟨h1, h2⟩ := set_none_get (show ((wipeV v vs).set i none)[j]? = some (some d) from e)
      show ∃ w, ((wipeE env vs).set i none)[j]? = _ ∧ _
      rw [List.getElem?_set_ne h1]
      exact R2.vw j d h2
    · obtain ⟨h1, h2⟩ := set_none_get (show ((wipeO o vs).set i none)[j]? = some (some l) from e)
      show ∃ w, ((wipeE env vs).set i none)[j]? = _ ∧ _
      rw [List.getElem?_set_ne h1]
      exact R2.ow j l h2

/-! ### comprehensions that only read -/
/-- what raises is not told here -/
def Ro.only {α : Type} : Ro α → Ro α
  | .ok a => .ok a
  | _ => .bad
def lcV (g : VG) (t : VT) (e : VE) (v : VEnv) (o : OEnv) : List D → Ro (List D)
  | [] => .ok []
  | d :: ds => (g d v o).only.bind fun p => (t p.1 p.2).only.bind fun c => if c = true then (e p.1 p.2).only.bind fun y => (lcV g t e v o ds).bind fun l => .ok (y :: l) else lcV g t e v o ds
def vLc (it : VI) (g : VG) (t : VT) (e : VE) (vs : List Nat) : VE := fun v o => (it v o).bind fun items => if items.length < 100000 then (lcV g t e (wipeV v vs) (wipeO o vs) items).bind fun l => .ok (.lst l) else .bad
theorem Qo.only {α β : Type} {A : Nat → Prop} {m : Mem} {V : Mem → α → β → Prop} {x : Out α} {y : Ro β} {b : β} (h : Qo A m V x y) (e : y.only = .ok b) : ∃ a r, x = .ok a (m ++ r) ∧ V (m ++ r) a b := by
  cases y with
  | bad => cases e
  | exc _ _ => cases e
  | ok c => cases e; exact h
theorem bind_only_ok {α β : Type} {y : Ro α} {f : α → Ro β} {b : β} (e : y.only.bind f = .ok b) : ∃ a, y.only = .ok a ∧ f a = .ok b := by
  cases y with
  | bad => cases e
  | exc _ _ => cases e
  | ok c => exact ⟨c, rfl, e⟩
theorem bind_ok {α β : Type} {y : Ro α} {f : α → Ro β} {b : β} (e : y.bind f = .ok b) : ∃ a, y = .ok a ∧ f a = .ok b := by
  cases y with
  | bad => cases e
  | exc _ _ => cases e
  | ok c => exact ⟨c, rfl, e⟩
theorem lcV_len {g : VG} {t : VT} {e : VE} {v : VEnv} {o : OEnv} : ∀ {ds l : List D}, lcV g t e v o ds = .ok l → l.length ≤ ds.length
  | [], l, h => by cases h; exact Nat.le_refl _
  | d :: ds, l, h => by
    obtain ⟨p, _, h⟩ := bind_only_ok h
    obtain ⟨c, _, h⟩ := bind_only_ok h
    cases c with
    | true =>
      rw [if_pos rfl] at h
      obtain ⟨y, _, h⟩ := bind_only_ok h
      obtain ⟨l', h', h⟩ := bind_ok h
      cases h
      exact Nat.succ_le_succ (lcV_len h')
    | false =>
      rw [if_neg (by decide)] at h
      exact Nat.le_succ_of_le (lcV_len h)
theorem lcV_noexc {g : VG} {t : VT} {e : VE} {v : VEnv} {o : OEnv} : ∀ (ds : List D) {c : Str} {as : List D}, lcV g t e v o ds = .exc c as → False
  | [], _, _, h => by cases h
  | d :: ds, _, _, h => by
    unfold lcV at h
    cases q : (g d v o).only with
    | bad => rw [q] at h; cases h
    | exc _ _ => cases q2 : g d v o <;> (rw [q2] at q; cases q)
    | ok p =>
      rw [q] at h
      have h : ((t p.1 p.2).only.bind fun c => if c = true then (e p.1 p.2).only.bind fun y => (lcV g t e v o ds).bind fun l => .ok (y :: l) else lcV g t e v o ds) = _ := h
      cases q : (t p.1 p.2).only with
      | bad => rw [q] at h; cases h
      | exc _ _ => cases q2 : t p.1 p.2 <;> (rw [q2] at q; cases q)
      | ok c =>
        rw [q] at h
        cases c with
        | false => exact lcV_noexc ds h
        | true =>
          have h : ((e p.1 p.2).only.bind fun y => (lcV g t e v o ds).bind fun l => .ok (y :: l)) = _ := h
          cases q : (e p.1 p.2).only with
          | bad => rw [q] at h; cases h
          | exc _ _ => cases q2 : e p.1 p.2 <;> (rw [q2] at q; cases q)
          | ok y =>
            rw [q] at h
            have h : ((lcV g t e v o ds).bind fun l => .ok (y :: l)) = _ := h
            cases q : lcV g t e v o ds with
            | bad => rw [q] at h; cases h
            | exc _ _ => exact lcV_noexc ds q
            | ok l => rw [q] at h; cases h
theorem lc_run {it : Src} {g : DG} {qg : VG} {t : DT} {qt : VT} {e : DE} {qe : VE} (hg : GQ g qg) (ht : QT t qt) (he : QE e qe) {A : Nat → Prop} {m1 : Mem} {env0 : Env} {v : VEnv} {o : OEnv} {items : List D} (hb : Bd A m1) (R : RQ A env0 m1 v o) (hs : SrcOk A m1 it items) (hl : items.length < 100000) :
    ∀ (d i fuel : Nat) (acc : List W) (accd : List D) (r : Mem) (l : List D), i + d = items.length → d < fuel → Vws (fun k => A k ∨ k = m1.length) (m1 ++ .lst acc :: r) acc accd → accd.length ≤ i → lcV qg qt qe v o (items.drop i) = .ok l →
      ∃ acc' r', lcL it g t e env0 m1.length fuel i (m1 ++ .lst acc :: r) = .ok () (m1 ++ .lst acc' :: r') ∧ Vws (fun k => A k ∨ k = m1.length) (m1 ++ .lst acc' :: r') acc' (accd ++ l)
  | d, i, 0, _, _, _, _, _, hf, _, _, _ => absurd hf (Nat.not_lt_zero _)
  | 0, i, fuel + 1, acc, accd, r, l, hi, _, ha, _, hv => by
    have hi : i = items.length := hi
    subst hi
    rw [List.drop_length] at hv
    cases hv
    have kp : Kp A m1 (fun k => A k ∨ k = m1.length) (m1 ++ .lst acc :: r) := fun k ob na e => ⟨fun z => z.elim na fun z => absurd (seqAt_lt e) (by omega), get_app e⟩
    obtain ⟨ow, e1, e2⟩ := hs.2 _ _ kp items.length (Nat.le_refl _)
    rw [List.getElem?_eq_none (Nat.le_refl _)] at e2
    cases (show ow = none from e2)
    refine ⟨acc, r, ?_, by rw [List.append_nil]; exact ha⟩
    unfold lcL
    rw [e1]
  | d + 1, i, fuel + 1, acc, accd, r, l, hi, hf, ha, hai, hv => by
    have hlt : i < items.length := by omega
    have kp : Kp A m1 (fun k => A k ∨ k = m1.length) (m1 ++ .lst acc :: r) := fun k ob na e => ⟨fun z => z.elim na fun z => absurd (seqAt_lt e) (by omega), get_app e⟩
    obtain ⟨ow, e1, e2⟩ := hs.2 _ _ kp i (Nat.le_of_lt hlt)
    rw [List.getElem?_eq_getElem hlt] at e2
    obtain ⟨w, rfl, hw⟩ := e2
    rw [List.drop_eq_getElem_cons hlt] at hv
    obtain ⟨p, hp, hv⟩ := bind_only_ok hv
    obtain ⟨c, hc, hv⟩ := bind_only_ok hv
    have hp : qg items[i] v o = .ok p := by
      cases q : qg items[i] v o with
      | ok p' => rw [q] at hp; cases hp; rfl
      | _ => rw [q] at hp; cases hp
    have g1 := hg (fun k => A k ∨ k = m1.length) (m1 ++ .lst acc :: r) w items[i] env0 v o hw
    rw [hp] at g1
    obtain ⟨env2, g2, g3⟩ := g1
    have R2 := RQ.sets g3 (R.mono kp)
    have bd : Bd (fun k => A k ∨ k = m1.length) (m1 ++ .lst acc :: r) := fun k z => by
      rw [List.length_append, List.length_cons]
      rcases z with z | z
      · have := hb k z; omega
      · omega
    obtain ⟨c', r2, t1, t2⟩ := (ht _ env2 _ p.1 p.2 bd R2).only hc
    cases (show c' = c from t2)
    unfold lcL
    rw [e1]
    dsimp only
    rw [g2]
    dsimp only
    rw [t1, List.append_assoc, List.cons_append]
    rw [List.append_assoc, List.cons_append] at t2
    have kp2 : Kp (fun k => A k ∨ k = m1.length) (m1 ++ .lst acc :: r) (fun k => A k ∨ k = m1.length) (m1 ++ .lst acc :: (r ++ r2)) := by
      have := Kp.app (fun k => A k ∨ k = m1.length) (m1 ++ .lst acc :: r) r2
      rwa [List.append_assoc, List.cons_append] at this
    have bd2 : Bd (fun k => A k ∨ k = m1.length) (m1 ++ .lst acc :: (r ++ r2)) := by
      have := bd.app r2
      rwa [List.append_assoc, List.cons_append] at this
    cases c with
    | false =>
      rw [if_neg (by decide)] at hv
      exact lc_run hg ht he hb R hs hl d (i + 1) fuel acc accd (r ++ r2) l (by omega) (by omega) (ha.mono kp2) (by omega) hv
    | true =>
      rw [if_pos rfl] at hv
      obtain ⟨y, hy, hv⟩ := bind_only_ok hv
      obtain ⟨l', hl', hv⟩ := bind_ok hv
      cases hv
      obtain ⟨wy, r3, y1, y2⟩ := (he _ env2 _ p.1 p.2 bd2 (R2.mono kp2)).only hy
      dsimp only
      rw [y1, List.append_assoc, List.cons_append]
      rw [List.append_assoc, List.cons_append] at y2
      have kp3 : Kp (fun k => A k ∨ k = m1.length) (m1 ++ .lst acc :: (r ++ r2)) (fun k => A k ∨ k = m1.length) (m1 ++ .lst acc :: (r ++ r2 ++ r3)) := by
        have := Kp.app (fun k => A k ∨ k = m1.length) (m1 ++ .lst acc :: (r ++ r2)) r3
        rwa [List.append_assoc, List.cons_append] at this
      have ha3 := (ha.mono kp2).mono kp3
      dsimp only
      rw [show lstOf (m1 ++ .lst acc :: (r ++ r2 ++ r3)) m1.length = some acc from lstOf_lst get_new]
      dsimp only
      rw [if_pos (by rw [ha.length]; omega), set_new]
      have kp4 : Kp (fun k => A k ∨ k = m1.length) (m1 ++ .lst acc :: (r ++ r2 ++ r3)) (fun k => A k ∨ k = m1.length) (m1 ++ .lst (acc ++ [wy]) :: (r ++ r2 ++ r3)) := by
        have := Kp.set (A := fun k => A k ∨ k = m1.length) (m1 ++ .lst acc :: (r ++ r2 ++ r3)) (.lst (acc ++ [wy])) (k := m1.length) (.inr rfl)
        rwa [set_new] at this
      obtain ⟨acc', r', q1, q2⟩ := lc_run hg ht he hb R hs hl d (i + 1) fuel (acc ++ [wy]) (accd ++ [y]) (r ++ r2 ++ r3) l' (by omega) (by omega) ((ha3.mono kp4).append (.cons (y2.mono kp4) .nil)) (by rw [List.length_append, List.length_singleton]; omega) hl'
      refine ⟨acc', r', q1, ?_⟩
      rw [List.append_assoc] at q2
      exact q2
theorem lc_ok {it : DI} {qi : VI} {g : DG} {qg : VG} {t : DT} {qt : VT} {e : DE} {qe : VE} {vs : List Nat} (hi : QI it qi) (hg : GQ g qg) (ht : QT t qt) (he : QE e qe) {A : Nat → Prop} {env : Env} {m : Mem} {v : VEnv} {o : OEnv} (hb : Bd A m) (R : RQ A env m v o) :
    match vLc qi qg qt qe vs v o with
    | .ok d => ∃ k r ws l, dLc it g t e vs env m = .ok (.ref k) (m ++ r) ∧ d = .lst l ∧ m.length ≤ k ∧ (m ++ r)[k]? = some (.lst ws) ∧ Vws (fun j => A j ∨ j = k) (m ++ r) ws l
    | .exc c as => ∃ ws r, dLc it g t e vs env m = .exc ⟨c, ws⟩ (m ++ r) ∧ Vws A (m ++ r) ws as
    | .bad => True := by
  have h1 := hi A env m v o hb R
  unfold vLc dLc
  cases q : qi v o with
  | bad => trivial
  | exc c as =>
    rw [q] at h1
    obtain ⟨ws, r, e1, e2⟩ := h1
    refine ⟨ws, r, ?_, e2⟩
    rw [e1]
    rfl
  | ok items =>
    rw [q] at h1
    obtain ⟨src, r, e1, e2⟩ := h1
    rw [e1]
    show match (if items.length < 100000 then _ else _ : Ro D) with
      | .ok d => _
      | .exc c as => _
      | .bad => True
    by_cases c : items.length < 100000
    · rw [if_pos c]
      cases q2 : lcV qg qt qe (wipeV v vs) (wipeO o vs) items with
      | bad => trivial
      | exc c as => exact (lcV_noexc items q2).elim
      | ok l =>
        obtain ⟨acc', r', f1, f2⟩ := lc_run hg ht he (hb.app r) ((R.mono (Kp.app _ _ r)).wipe vs) e2 c items.length 0 (turnsS src (m ++ r) + 1) [] [] [] l (by omega) (by rw [e2.1]; omega) .nil (Nat.le_refl _) q2
        refine ⟨(m ++ r).length, r ++ .lst acc' :: r', acc', l, ?_, rfl, by rw [List.length_append]; omega, by rw [← List.append_assoc, get_new]; rfl, by rw [← List.append_assoc]; exact f2⟩
        simp only [s_bind_ok]
        rw [f1]
        simp
    · rw [if_neg c]
      trivial
theorem q_lc {it : DI} {qi : VI} {g : DG} {qg : VG} {t : DT} {qt : VT} {e : DE} {qe : VE} {vs : List Nat} (hi : QI it qi) (hg : GQ g qg) (ht : QT t qt) (he : QE e qe) : QE (dLc it g t e vs) (vLc qi qg qt qe vs) := fun A env m v o hb R => by
  have h := lc_ok (vs := vs) hi hg ht he hb R
  cases q : vLc qi qg qt qe vs v o with
  | bad => trivial
  | exc c as => rw [q] at h; exact h
  | ok d =>
    rw [q] at h
    obtain ⟨k, r, ws, l, h1, h2, h3, h4, h5⟩ := h
    subst h2
    refine ⟨.ref k, r, h1, .lst (fun z => absurd (hb k z) (by omega)) h4 (h5.mono (Kp.less _ fun j z => .inl z))⟩
end Nw
set_option Elab.async false
set_option linter.all false
set_option maxRecDepth 100000
set_option maxHeartbeats 1000000
namespace Nw
open PySem PySem.Spec PyProof.Rows L2

/-! ### the slots of a def: what is seen, what is one's own -/
/-- not to be reached: A, and the lists of one's own -/
def Av (A : Nat → Prop) (ks : List (Option Nat)) : Nat → Prop := fun k => A k ∨ some k ∈ ks
/-- which slots hold lent lists, and how many slots there are -/
structure Pn where
  p : Nat → Bool
  n : Nat
structure Rel (pens : Pn) (b : Mem) (A P : Nat → Prop) (ks : List (Option Nat)) (env : Env) (m : Mem) (v : VEnv) (o : OEnv) : Prop where
  le : b.length ≤ m.length
  ext : ∀ (k : Nat), k < b.length → ¬ P k → m[k]? = b[k]?
  lv : v.length ≤ env.length
  lo : o.length ≤ env.length
  lk : ks.length = env.length
  ln : env.length = pens.n
  vw : ∀ (i : Nat) (d : D), v[i]? = some (some d) → ∃ w, env[i]? = some (some w) ∧ Vw (Av A ks) m w d
  ow : ∀ (i : Nat) (l : List D), o[i]? = some (some l) → ∃ k ws, ks[i]? = some (some k) ∧ env[i]? = some (some (.ref k)) ∧ m[k]? = some (.lst ws) ∧ Vws (Av A ks) m ws l
  inj : ∀ (i j k : Nat), ks[i]? = some (some k) → ks[j]? = some (some k) → i = j
  loc : ∀ (i k : Nat), ks[i]? = some (some k) → if pens.p i = true then P k else b.length ≤ k
  kb : ∀ (i k : Nat), ks[i]? = some (some k) → k < m.length
  ab : ∀ k, A k → k < b.length
  pa : ∀ k, P k → A k
theorem mem_ks {ks : List (Option Nat)} {k : Nat} : some k ∈ ks ↔ ∃ i : Nat, ks[i]? = some (some k) := List.mem_iff_getElem?
section
variable {pens : Pn} {b : Mem} {A P : Nat → Prop} {ks : List (Option Nat)} {env : Env} {m : Mem} {v : VEnv} {o : OEnv}
theorem Rel.bd (R : Rel pens b A P ks env m v o) : Bd (Av A ks) m := fun k h => h.elim (fun h => Nat.lt_of_lt_of_le (R.ab k h) R.le) fun h => let ⟨i, e⟩ := mem_ks.mp h; R.kb i k e
theorem Rel.bdA (R : Rel pens b A P ks env m v o) : Bd A m := fun k h => Nat.lt_of_lt_of_le (R.ab k h) R.le
theorem Rel.strict (R : Rel pens b A P ks env m v o) : RQ (Av A ks) env m v [] := ⟨R.lv, R.vw, fun i l e => by simp at e⟩
theorem Rel.loose (R : Rel pens b A P ks env m v o) : RQ (fun _ => False) env m v o :=
  ⟨R.lv, fun i d e => let ⟨w, h1, h2⟩ := R.vw i d e; ⟨w, h1, h2.mono (Kp.less _ fun _ z => z.elim)⟩, fun i l e => let ⟨k, ws, h1, h2, h3, h4⟩ := R.ow i l e; ⟨_, h2, .lst (fun z => z) h3 (h4.mono (Kp.less _ fun _ z => z.elim))⟩⟩
/-- where no list is lent: own lists are nobody else's -/
theorem Rel.quiet {n : Nat} (R : Rel ⟨fun _ => false, n⟩ b A P ks env m v o) : RQ A env m v o :=
  ⟨R.lv, fun i d e => let ⟨w, h1, h2⟩ := R.vw i d e; ⟨w, h1, h2.mono (Kp.less _ fun _ z => .inl z)⟩, fun i l e => let ⟨k, ws, h1, h2, h3, h4⟩ := R.ow i l e; ⟨_, h2, .lst (fun z => by
    have h5 : (if false = true then P k else b.length ≤ k) := R.loc i k h1
    rw [if_neg (by decide)] at h5
    exact absurd (R.ab k z) (by omega)) h3 (h4.mono (Kp.less _ fun _ z => .inl z))⟩⟩
theorem Rel.app (R : Rel pens b A P ks env m v o) (r : Mem) : Rel pens b A P ks env (m ++ r) v o where
  le := by rw [List.length_append]; exact Nat.le_add_right_of_le R.le
  ext := fun k hk hp => by rw [List.getElem?_append_left (Nat.lt_of_lt_of_le hk R.le)]; exact R.ext k hk hp
  lv := R.lv
  lo := R.lo
  lk := R.lk
  ln := R.ln
  vw := fun i d e => let ⟨w, h1, h2⟩ := R.vw i d e; ⟨w, h1, h2.mono (Kp.app _ _ _)⟩
  ow := fun i l e => let ⟨k, ws, h1, h2, h3, h4⟩ := R.ow i l e; ⟨k, ws, h1, h2, get_app h3, h4.mono (Kp.app _ _ _)⟩
  inj := R.inj
  loc := R.loc
  kb := fun i k e => Nat.lt_of_lt_of_le (R.kb i k e) (by rw [List.length_append]; exact Nat.le_add_right _ _)
  ab := R.ab
  pa := R.pa
theorem none_ks {i k : Nat} {j : Nat} (e : (ks.set i none)[j]? = some (some k)) : ks[j]? = some (some k) := (set_none_get e).2
theorem Av.less {i : Nat} {k : Nat} (h : Av A (ks.set i none) k) : Av A ks k := h.elim .inl fun h => let ⟨j, e⟩ := mem_ks.mp h; .inr (mem_ks.mpr ⟨j, none_ks e⟩)
/-- a slot is given what is seen -/
theorem Rel.setV (R : Rel pens b A P ks env m v o) {w : W} {d : D} (h : Vw (Av A ks) m w d) (i : Nat) : Rel pens b A P (ks.set i none) (env.set i (some w)) m (v.set i (some d)) (o.set i none) where
  le := R.le
  ext := R.ext
  lv := by rw [List.length_set, List.length_set]; exact R.lv
  lo := by rw [List.length_set, List.length_set]; exact R.lo
  lk := by rw [List.length_set, List.length_set]; exact R.lk
  ln := by rw [List.length_set]; exact R.ln
  vw := fun j d' e => by
    have kl : Kp (Av A ks) m (Av A (ks.set i none)) m := Kp.less _ fun _ => Av.less
    by_cases hj : i = j
    · subst hj
      have hi : i < v.length := by
        have := (List.getElem?_eq_some_iff.mp e).1
        simpa using this
      rw [List.getElem?_set_self hi] at e
      cases e
      exact ⟨w, by rw [List.getElem?_set_self (Nat.lt_of_lt_of_le hi R.lv)], h.mono kl⟩
    · rw [List.getElem?_set_ne hj] at e ⊢
      obtain ⟨w', h1, h2⟩ := R.vw j d' e
      exact ⟨w', h1, h2.mono kl⟩
  ow := fun j l e => by
    obtain ⟨hj, e⟩ := set_none_get e
    obtain ⟨k, ws, h1, h2, h3, h4⟩ := R.ow j l e
    exact ⟨k, ws, by rw [List.getElem?_set_ne hj]; exact h1, by rw [List.getElem?_set_ne hj]; exact h2, h3, h4.mono (Kp.less _ fun _ => Av.less)⟩
  inj := fun i' j' k h1 h2 => R.inj i' j' k (none_ks h1) (none_ks h2)
  loc := fun i' k h => R.loc i' k (none_ks h)
  kb := fun i' k h => R.kb i' k (none_ks h)
  ab := R.ab
  pa := R.pa
theorem Rel.sets {env2 : Env} {v2 : VEnv} {o2 : OEnv} {A0 : Nat → Prop} (s : Sets A0 m env v o env2 v2 o2) : ∀ {ks : List (Option Nat)}, (∀ k, Av A ks k → A0 k) → Rel pens b A P ks env m v o → ∃ ks2, Rel pens b A P ks2 env2 m v2 o2 ∧ ∀ k, Av A ks2 k → Av A ks k := by
  induction s with
  | refl => exact fun _ R => ⟨_, R, fun _ h => h⟩
  | step i h _ ih =>
    intro ks hA R
    obtain ⟨ks2, R2, hk⟩ := ih (ks := ks.set i none) (fun k z => hA k z.less) (R.setV (h.mono (Kp.less _ hA)) i)
    exact ⟨ks2, R2, fun k z => (hk k z).less⟩
theorem Rel.wipe (R : Rel pens b A P ks env m v o) (i : Nat) : Rel pens b A P (ks.set i none) (env.set i none) m (v.set i none) (o.set i none) where
  le := R.le
  ext := R.ext
  lv := by rw [List.length_set, List.length_set]; exact R.lv
  lo := by rw [List.length_set, List.length_set]; exact R.lo
  lk := by rw [List.length_set, List.length_set]; exact R.lk
  ln := by rw [List.length_set]; exact R.ln
  vw := fun j d' e => by
    obtain ⟨hj, e⟩ := set_none_get e
    obtain ⟨w', h1, h2⟩ := R.vw j d' e
    exact ⟨w', by rw [List.getElem?_set_ne hj]; exact h1, h2.mono (Kp.less _ fun _ => Av.less)⟩
  ow := fun j l e => by
    obtain ⟨hj, e⟩ := set_none_get e
    obtain ⟨k, ws, h1, h2, h3, h4⟩ := R.ow j l e
    exact ⟨k, ws, by rw [List.getElem?_set_ne hj]; exact h1, by rw [List.getElem?_set_ne hj]; exact h2, h3, h4.mono (Kp.less _ fun _ => Av.less)⟩
  inj := fun i' j' k h1 h2 => R.inj i' j' k (none_ks h1) (none_ks h2)
  loc := fun i' k h => R.loc i' k (none_ks h)
  kb := fun i' k h => R.kb i' k (none_ks h)
  ab := R.ab
  pa := R.pa
/-- a slot is given a new list of its own -/
theorem Rel.setO (R : Rel pens b A P ks env m v o) {r : Mem} {k i : Nat} {ws : List W} {l : List D} (hi : pens.p i = false) (hk : m.length ≤ k) (hw : (m ++ r)[k]? = some (.lst ws)) (hl : Vws (fun j => Av A ks j ∨ j = k) (m ++ r) ws l) :
    Rel pens b A P (ks.set i (some k)) (env.set i (some (.ref k))) (m ++ r) (v.set i none) (o.set i (some l)) ∧ Kp (Av A ks) m (Av A (ks.set i (some k))) (m ++ r) := by
  have av : ∀ j, Av A (ks.set i (some k)) j → Av A ks j ∨ j = k := fun j h => h.elim (fun h => .inl (.inl h)) fun h => by
    rcases List.mem_or_eq_of_mem_set h with h | h
    · exact .inl (.inr h)
    · cases h
      exact .inr rfl
  have kp : Kp (Av A ks) m (Av A (ks.set i (some k))) (m ++ r) := fun j ob na e => ⟨fun z => (av j z).elim na fun z => absurd (seqAt_lt e) (by omega), get_app e⟩
  have cs : ∀ {j k' : Nat}, (ks.set i (some k))[j]? = some (some k') → (j = i ∧ k' = k) ∨ (i ≠ j ∧ ks[j]? = some (some k')) := fun {j k'} e => by
    by_cases hj : i = j
    · subst hj
      have h2 : i < ks.length := by
        have := (List.getElem?_eq_some_iff.mp e).1
        simpa using this
      rw [List.getElem?_set_self h2] at e
      cases e
      exact .inl ⟨rfl, rfl⟩
    · rw [List.getElem?_set_ne hj] at e
      exact .inr ⟨hj, e⟩
  refine ⟨?_, kp⟩
  exact {
    le := by rw [List.length_append]; exact Nat.le_add_right_of_le R.le
    ext := fun k hk hp => by rw [List.getElem?_append_left (Nat.lt_of_lt_of_le hk R.le)]; exact R.ext k hk hp
    lv := by rw [List.length_set, List.length_set]; exact R.lv
    lo := by rw [List.length_set, List.length_set]; exact R.lo
    lk := by rw [List.length_set, List.length_set]; exact R.lk
    ln := by rw [List.length_set]; exact R.ln
    vw := fun j d e => by
      obtain ⟨hj, e⟩ := set_none_get e
      obtain ⟨w, h1, h2⟩ := R.vw j d e
      exact ⟨w, by rw [List.getElem?_set_ne hj]; exact h1, h2.mono kp⟩
    ow := fun j l' e => by
      by_cases hj : i = j
      · subst hj
        have h2 : i < o.length := by
          have := (List.getElem?_eq_some_iff.mp e).1
          simpa using this
        rw [List.getElem?_set_self h2] at e
        cases e
        have h3 := Nat.lt_of_lt_of_le h2 R.lo
        exact ⟨k, ws, by rw [List.getElem?_set_self (by rw [R.lk]; exact h3)], by rw [List.getElem?_set_self h3], hw, hl.mono (Kp.less _ av)⟩
      · rw [List.getElem?_set_ne hj] at e
        obtain ⟨k', ws', h1, h2, h3, h4⟩ := R.ow j l' e
        exact ⟨k', ws', by rw [List.getElem?_set_ne hj]; exact h1, by rw [List.getElem?_set_ne hj]; exact h2, get_app h3, h4.mono kp⟩
    inj := fun i' j' k' h1 h2 => by
      rcases cs h1 with ⟨e1, e2⟩ | ⟨e1, e2⟩ <;> rcases cs h2 with ⟨e3, e4⟩ | ⟨e3, e4⟩
      · rw [e1, e3]
      · have := R.kb j' k' e4; omega
      · have := R.kb i' k' e2; omega
      · exact R.inj i' j' k' e2 e4
    loc := fun i' k' h => by
      rcases cs h with ⟨e1, e2⟩ | ⟨e1, e2⟩
      · rw [e1, e2, hi, if_neg (by decide)]
        have := R.le
        omega
      · exact R.loc i' k' e2
    kb := fun i' k' h => by
      rcases cs h with ⟨e1, e2⟩ | ⟨e1, e2⟩
      · rw [e2]
        exact seqAt_lt hw
      · exact Nat.lt_of_lt_of_le (R.kb i' k' e2) (by rw [List.length_append]; exact Nat.le_add_right _ _)
    ab := R.ab
    pa := R.pa }
/-- a list of one's own is changed, and new things made -/
theorem Rel.mut (R : Rel pens b A P ks env m v o) {i k : Nat} {m' : Mem} {ws' : List W} {l0 l' : List D} (ho : o[i]? = some (some l0)) (hk : ks[i]? = some (some k)) (hle : m.length ≤ m'.length) (hext : ∀ j, j < m.length → j ≠ k → m'[j]? = m[j]?) (hw : m'[k]? = some (.lst ws')) (hl : Vws (Av A ks) m' ws' l') :
    Rel pens b A P ks env m' v (o.set i (some l')) ∧ Kp (Av A ks) m (Av A ks) m' := by
  have ak : Av A ks k := .inr (mem_ks.mpr ⟨i, hk⟩)
  have kp : Kp (Av A ks) m (Av A ks) m' := fun j ob na e => ⟨na, by
    rw [hext j (seqAt_lt e) fun z => na (by rw [z]; exact ak)]
    exact e⟩
  refine ⟨?_, kp⟩
  exact {
    le := Nat.le_trans R.le hle
    ext := fun j hj hp => by
      rw [hext j (Nat.lt_of_lt_of_le hj R.le) fun z => ?_]
      · exact R.ext j hj hp
      · subst z
        have := R.loc i j hk
        by_cases c : pens.p i = true
        · rw [if_pos c] at this
          exact hp this
        · rw [if_neg c] at this
          omega
    lv := R.lv
    lo := by rw [List.length_set]; exact R.lo
    lk := R.lk
    ln := R.ln
    vw := fun j d e => let ⟨w, h1, h2⟩ := R.vw j d e; ⟨w, h1, h2.mono kp⟩
    ow := fun j l e => by
      by_cases hj : i = j
      · subst hj
        have h2 := (List.getElem?_eq_some_iff.mp ho).1
        rw [List.getElem?_set_self h2] at e
        cases e
        obtain ⟨k', _, h1, h2, _, _⟩ := R.ow i l0 ho
        rw [hk] at h1
        cases h1
        exact ⟨k, ws', hk, h2, hw, hl⟩
      · rw [List.getElem?_set_ne hj] at e
        obtain ⟨k', ws, h1, h2, h3, h4⟩ := R.ow j l e
        refine ⟨k', ws, h1, h2, ?_, h4.mono kp⟩
        rw [hext k' (seqAt_lt h3) fun z => hj (R.inj i j k hk (by rw [← z]; exact h1))]
        exact h3
    inj := R.inj
    loc := R.loc
    kb := fun i' k' h => Nat.lt_of_lt_of_le (R.kb i' k' h) hle
    ab := R.ab
    pa := R.pa }
/-- a list of one's own is let go: from now on it is seen -/
theorem Rel.move (R : Rel pens b A P ks env m v o) {i j : Nat} {l : List D} (hp : pens.p j = false) (ho : o[j]? = some (some l)) (ij : i ≠ j) : ∃ k, env[j]? = some (some (.ref k)) ∧ ∃ ks', Rel pens b A P ks' (env.set i (some (.ref k))) m (v.set i (some (.lst l))) ((o.set j none).set i none) ∧ ∀ k, Av A ks' k → Av A ks k := by
  obtain ⟨k, ws, h1, h2, h3, h4⟩ := R.ow j l ho
  have nk : ¬ Av A (ks.set j none) k := fun z => by
    rcases z with z | z
    · have := R.loc j k h1
      rw [hp, if_neg (by decide)] at this
      have := R.ab k z
      omega
    · obtain ⟨j', e⟩ := mem_ks.mp z
      obtain ⟨n, e2⟩ := set_none_get e
      exact n (R.inj j j' k h1 e2)
  have less : ∀ k, Av A (ks.set j none) k → Av A ks k := fun _ => Av.less
  have R1 : Rel pens b A P (ks.set j none) env m v (o.set j none) := {
    le := R.le
    ext := R.ext
    lv := R.lv
    lo := by rw [List.length_set]; exact R.lo
    lk := by rw [List.length_set]; exact R.lk
    ln := R.ln
    vw := fun j d e => let ⟨w, h1, h2⟩ := R.vw j d e; ⟨w, h1, h2.mono (Kp.less _ less)⟩
    ow := fun j' l' e => by
      obtain ⟨n, e⟩ := set_none_get e
      obtain ⟨k', ws', g1, g2, g3, g4⟩ := R.ow j' l' e
      exact ⟨k', ws', by rw [List.getElem?_set_ne n]; exact g1, g2, g3, g4.mono (Kp.less _ less)⟩
    inj := fun i' j' k h1 h2 => R.inj i' j' k (none_ks h1) (none_ks h2)
    loc := fun i' k h => R.loc i' k (none_ks h)
    kb := fun i' k h => R.kb i' k (none_ks h)
    ab := R.ab
    pa := R.pa }
  exact ⟨k, h2, _, R1.setV (.lst nk h3 (h4.mono (Kp.less _ less))) i, fun k z => (Av.less z).less⟩
theorem Rel.forget (R : Rel pens b A P ks env m v o) : Rel pens b A P ks env m v [] := { R with lo := Nat.zero_le _, ow := fun i l e => by simp at e }
end

/-! ### expressions that change lists of one's own -/
abbrev VL := VEnv → OEnv → Ro (D × OEnv)
abbrev VLT := VEnv → OEnv → Ro (Bool × OEnv)
abbrev VLA := VEnv → OEnv → Ro (List D × OEnv)
abbrev VX (α β : Type) := (Nat → Prop) → Mem → α → β → Prop
def Lo {α β : Type} (V : VX α β) (pens : Pn) (b : Mem) (A P : Nat → Prop) (ks : List (Option Nat)) (env : Env) (v : VEnv) (m : Mem) (x : Out α) (y : Ro (β × OEnv)) : Prop := match y with
  | .ok p => ∃ a m', x = .ok a m' ∧ Rel pens b A P ks env m' v p.2 ∧ Kp (Av A ks) m (Av A ks) m' ∧ V (Av A ks) m' a p.1
  | _ => True
section
variable {α β γ δ : Type} {V : VX α β} {V2 : VX γ δ} {pens : Pn} {b : Mem} {A P : Nat → Prop} {ks : List (Option Nat)} {env : Env} {m : Mem} {v : VEnv} {o : OEnv}
theorem Lo.bind {x : Out α} {y : Ro (β × OEnv)} {f : α → Mem → Out γ} {g : β → OEnv → Ro (δ × OEnv)} (h : Lo V pens b A P ks env v m x y) (k : ∀ a d m' o', Rel pens b A P ks env m' v o' → Kp (Av A ks) m (Av A ks) m' → V (Av A ks) m' a d → Lo V2 pens b A P ks env v m' (f a m') (g d o')) :
    Lo V2 pens b A P ks env v m (x.bind f) (y.bind fun p => g p.1 p.2) := by
  cases y with
  | bad => trivial
  | exc _ _ => trivial
  | ok p =>
    obtain ⟨a, m', e, R, kp, hv⟩ := h
    subst e
    have q := k a p.1 m' p.2 R kp hv
    show Lo V2 pens b A P ks env v m (f a m') (g p.1 p.2)
    cases z : g p.1 p.2 with
    | bad => trivial
    | exc _ _ => trivial
    | ok p2 =>
      rw [z] at q
      obtain ⟨c, m2, e, R2, kp2, hv2⟩ := q
      exact ⟨c, m2, e, R2, kp.trans kp2, hv2⟩
theorem Lo.ret {a : α} {d : β} (R : Rel pens b A P ks env m v o) (h : V (Av A ks) m a d) : Lo V pens b A P ks env v m (.ok a m) (.ok (d, o)) := ⟨a, m, rfl, R, Kp.refl _ _, h⟩
theorem Lo.quiet {x : Out α} {y : Ro β} (R : Rel pens b A P ks env m v o) (h : Qo (Av A ks) m (V (Av A ks)) x y) : Lo V pens b A P ks env v m x (y.bind fun d => .ok (d, o)) := by
  cases y with
  | bad => trivial
  | exc _ _ => trivial
  | ok d =>
    obtain ⟨a, r, e, hv⟩ := h
    exact ⟨a, _, e, R.app r, Kp.app _ _ _, hv⟩
end
abbrev XW : VX W D := fun A m w d => Vw A m w d
abbrev XA : VX (List W) (List D) := fun A m w d => Vws A m w d
abbrev XB : VX Bool Bool := fun _ _ a b => a = b
def JLx {α β : Type} (V : VX α β) (e : Env → Mem → Out α) (q : VEnv → OEnv → Ro (β × OEnv)) : Prop := ∀ pens b A P ks env m v o, Rel pens b A P ks env m v o → Lo V pens b A P ks env v m (e env m) (q v o)
abbrev JL (e : DE) (q : VL) : Prop := JLx XW e q
abbrev JLT (e : DT) (q : VLT) : Prop := JLx XB e q
abbrev JLA (e : DA) (q : VLA) : Prop := JLx XA e q
/-- what is read of slots that are seen -/
def lQ (q : VE) : VL := fun v o => (q v []).bind fun d => .ok (d, o)
/-- what is read of any slots, and holds no list -/
def lF (q : VE) : VL := fun v o => (q v o).bind fun d => if d.flat = true then .ok (d, o) else .bad
def lOp (g : P2) (a b : VL) : VL := fun v o => (a v o).bind fun p => (b v p.2).bind fun p2 => (ofO (g p.1 p2.1)).bind fun d => .ok (d, p2.2)
def lUn (g : P1) (a : VL) : VL := fun v o => (a v o).bind fun p => (ofO (g p.1)).bind fun d => .ok (d, p.2)
def lNil : VLA := fun _ o => .ok ([], o)
def lCons (a : VL) (b : VLA) : VLA := fun v o => (a v o).bind fun p => (b v p.2).bind fun p2 => .ok (p.1 :: p2.1, p2.2)
def lCB (g : PN) (a : VLA) : VL := fun v o => (a v o).bind fun p => (ofO (g p.1)).bind fun d => .ok (d, p.2)
def lCallQ (n : Nat) (F : FD) (a : VLA) : VL := fun v o => (a v o).bind fun p => (if p.1.length = n then F p.1 else .bad).bind fun d => .ok (d, p.2)
def lTst (q : VL) : VLT := fun v o => (q v o).bind fun p => (ofO (blD p.1)).bind fun b => .ok (b, p.2)
def lTru (q : VL) : VLT := fun v o => (q v o).bind fun p => (ofO (truD p.1)).bind fun b => .ok (b, p.2)
def lTQ (q : VT) : VLT := fun v o => (q v o).bind fun d => .ok (d, o)
def lAnd (a b : VLT) : VLT := fun v o => (a v o).bind fun p => if p.1 = true then b v p.2 else .ok (false, p.2)
def lOr (a b : VLT) : VLT := fun v o => (a v o).bind fun p => if p.1 = true then .ok (true, p.2) else b v p.2
def lNot (a : VLT) : VLT := fun v o => (a v o).bind fun p => .ok (!p.1, p.2)
def lIf (t : VLT) (a b : VL) : VL := fun v o => (t v o).bind fun p => if p.1 = true then a v p.2 else b v p.2
section
variable {a c : DE} {q qc : VE} {la lb : VL} {b : DE} {as : DA} {ls : VLA} {t u : DT} {lt lu : VLT}
theorem l_q (h : QE a q) : JL a (lQ q) := fun pens b A P ks env m v o R => Lo.quiet R (h (Av A ks) env m v [] R.bd R.strict)
theorem l_f (h : QE a q) : JL a (lF q) := fun pens b A P ks env m v o R => by
  have g := h (fun _ => False) env m v o (fun _ z => z.elim) R.loose
  unfold lF
  cases e : q v o with
  | bad => trivial
  | exc _ _ => trivial
  | ok d =>
    rw [e] at g
    obtain ⟨w, r, e1, h1⟩ := g
    show Lo XW pens b A P ks env v m _ (if d.flat = true then .ok (d, o) else .bad)
    by_cases c : d.flat = true
    · rw [if_pos c]
      exact ⟨w, _, e1, R.app r, Kp.app _ _ _, h1.flat c⟩
    · rw [if_neg c]
      trivial
theorem Lo.op {α : Type} {pens : Pn} {b : Mem} {A P : Nat → Prop} {ks : List (Option Nat)} {env : Env} {m : Mem} {v : VEnv} {o : OEnv} {x : Option (W × Mem)} {y : Option D} (R : Rel pens b A P ks env m v o) (h : Gv (Av A ks) m x y) : Lo XW pens b A P ks env v m (lift x) ((ofO y).bind fun d => .ok (d, o)) := Lo.quiet (V := XW) R h.lift
theorem l_op {f : Op2} {g : P2} (hf : Q2 f g) (ha : JL a la) (hb : JL b lb) : JL (dOp f a b) (lOp g la lb) := fun pens _ A P ks env m v o R =>
  Lo.bind (ha _ _ _ _ _ _ _ _ _ R) fun x dx m1 o1 R1 k1 hx => Lo.bind (hb _ _ _ _ _ _ _ _ _ R1) fun y dy m2 o2 R2 k2 hy => Lo.op (α := W) R2 (hf _ m2 x y dx dy R2.bd (Vw.mono k2 hx) hy)
theorem l_un {f : Op1} {g : P1} (hf : Q1 f g) (ha : JL a la) : JL (dUn f a) (lUn g la) := fun pens _ A P ks env m v o R =>
  Lo.bind (ha _ _ _ _ _ _ _ _ _ R) fun x dx m1 o1 R1 k1 hx => Lo.op (α := W) R1 (hf _ m1 x dx R1.bd hx)
theorem l_nil : JLA dNil lNil := fun pens _ A P ks env m v o R => Lo.ret R .nil
theorem l_cons (ha : JL a la) (hs : JLA as ls) : JLA (dCons a as) (lCons la ls) := fun pens _ A P ks env m v o R =>
  Lo.bind (ha _ _ _ _ _ _ _ _ _ R) fun x dx m1 o1 R1 k1 hx => Lo.bind (hs _ _ _ _ _ _ _ _ _ R1) fun y dy m2 o2 R2 k2 hy => Lo.ret (V := XA) R2 (.cons (Vw.mono k2 hx) hy)
theorem l_cb {f : OpN} {g : PN} (hf : QN f g) (ha : JLA as ls) : JL (dCB f as) (lCB g ls) := fun pens _ A P ks env m v o R =>
  Lo.bind (ha _ _ _ _ _ _ _ _ _ R) fun x dx m1 o1 R1 k1 hx => Lo.op (α := W) R1 (hf _ m1 x dx R1.bd hx)
theorem l_callQ {n : Nat} {f : Den} {F : FD} (hf : FQ f F) (ha : JLA as ls) : JL (dCall n f as) (lCallQ n F ls) := fun pens _ A P ks env m v o R => by
  unfold dCall lCallQ
  refine Lo.bind (V2 := XW) (g := fun p o1 => (if p.length = n then F p else .bad).bind fun d => .ok (d, o1)) (ha _ _ _ _ _ _ _ _ _ R) fun x dx m1 o1 R1 k1 hx => Lo.quiet (V := XW) R1 ?_
  rw [Vws.length hx]
  by_cases c : dx.length = n
  · rw [if_pos c, if_pos c]
    exact hf _ m1 x dx R1.bd hx
  · rw [if_neg c, if_neg c]
    trivial
theorem l_tst (ha : JL a la) : JLT (dTst a) (lTst la) := fun pens _ A P ks env m v o R =>
  Lo.bind (ha _ _ _ _ _ _ _ _ _ R) fun x dx m1 o1 R1 k1 hx => Lo.quiet (V := XB) R1 (bl_q hx)
theorem l_tru (ha : JL a la) : JLT (dTru a) (lTru la) := fun pens _ A P ks env m v o R =>
  Lo.bind (ha _ _ _ _ _ _ _ _ _ R) fun x dx m1 o1 R1 k1 hx => Lo.quiet (V := XB) R1 (tru_q hx)
theorem l_tq {qt : VT} (h : QT t qt) : JLT t (lTQ qt) := fun pens b A P ks env m v o R => by
  have g := h (fun _ => False) env m v o (fun _ z => z.elim) R.loose
  unfold lTQ
  cases e : qt v o with
  | bad => trivial
  | exc _ _ => trivial
  | ok d =>
    rw [e] at g
    obtain ⟨w, r, e1, h1⟩ := g
    exact ⟨w, _, e1, R.app r, Kp.app _ _ _, h1⟩
theorem l_and (ha : JLT t lt) (hb : JLT u lu) : JLT (dAnd t u) (lAnd lt lu) := fun pens _ A P ks env m v o R => by
  unfold dAnd lAnd
  refine Lo.bind (V2 := XB) (g := fun p o1 => if p = true then lu v o1 else .ok (false, o1)) (ha _ _ _ _ _ _ _ _ _ R) fun x dx m1 o1 R1 k1 hx => ?_
  cases (show x = dx from hx)
  cases x with
  | true => exact hb _ _ _ _ _ _ _ _ _ R1
  | false => exact Lo.ret (V := XB) R1 rfl
theorem l_or (ha : JLT t lt) (hb : JLT u lu) : JLT (dOr t u) (lOr lt lu) := fun pens _ A P ks env m v o R => by
  unfold dOr lOr
  refine Lo.bind (V2 := XB) (g := fun p o1 => if p = true then .ok (true, o1) else lu v o1) (ha _ _ _ _ _ _ _ _ _ R) fun x dx m1 o1 R1 k1 hx => ?_
  cases (show x = dx from hx)
  cases x with
  | true => exact Lo.ret (V := XB) R1 rfl
  | false => exact hb _ _ _ _ _ _ _ _ _ R1
theorem l_not (ha : JLT t lt) : JLT (dNot t) (lNot lt) := fun pens _ A P ks env m v o R => by
  unfold dNot lNot
  refine Lo.bind (V2 := XB) (g := fun p o1 => .ok (!p, o1)) (ha _ _ _ _ _ _ _ _ _ R) fun x dx m1 o1 R1 k1 hx => ?_
  cases (show x = dx from hx)
  exact Lo.ret (V := XB) R1 rfl
theorem l_if (ht : JLT t lt) (ha : JL a la) (hb : JL b lb) : JL (dIf t a b) (lIf lt la lb) := fun pens _ A P ks env m v o R => by
  unfold dIf lIf
  refine Lo.bind (V2 := XW) (g := fun p o1 => if p = true then la v o1 else lb v o1) (ht _ _ _ _ _ _ _ _ _ R) fun x dx m1 o1 R1 k1 hx => ?_
  cases (show x = dx from hx)
  cases x with
  | true => exact ha _ _ _ _ _ _ _ _ _ R1
  | false => exact hb _ _ _ _ _ _ _ _ _ R1
end
/-! ### methods that change a list of one's own -/
abbrev PMut := List D → List D → Option (D × List D)
def QMut (f : OpM) (g : PMut) : Prop := ∀ A m k ws l us xs, A k → m[k]? = some (.lst ws) → Vws A m ws l → Vws A m us xs → match g l xs with
  | some p => ∃ w ws', f (.ref k) us m = some (w, m.set k (.lst ws')) ∧ Vw A m w p.1 ∧ Vws A m ws' p.2
  | none => True
def lBM (g : PMut) (i : Nat) (a : VLA) : VL := fun v o => match o[i]? with
  | some (some _) => (a v o).bind fun p => (match p.2[i]? with
    | some (some l) => (ofO (g l p.1)).bind fun q => .ok (q.1, p.2.set i (some q.2))
    | _ => .bad)
  | _ => .bad
theorem l_bm {f : OpM} {g : PMut} {i : Nat} {as : DA} {ls : VLA} (hf : QMut f g) (ha : JLA as ls) : JL (dBM .list f (dVar i) as) (lBM g i ls) := fun pens _ A P ks env m v o R => by
  unfold lBM
  cases e : o[i]? with
  | none => trivial
  | some x => cases x with
    | none => trivial
    | some l0 =>
      obtain ⟨k, ws, h1, h2, h3, h4⟩ := R.ow i l0 e
      dsimp only
      rw [s_bm, s_var, h2]
      simp only [s_varR, s_bind_ok, r_lst, seqAt_lst h3, Option.isSome_some, if_true]
      refine Lo.bind (V := XA) (V2 := XW) (g := fun p o1 => match o1[i]? with
        | some (some l) => (ofO (g l p)).bind fun q => .ok (q.1, o1.set i (some q.2))
        | _ => .bad) (ha _ _ _ _ _ _ _ _ _ R) fun x dx m1 o1 R1 k1 hx => ?_
      cases e1 : o1[i]? with
      | none => trivial
      | some x1 => cases x1 with
        | none => trivial
        | some l1 =>
          obtain ⟨k', ws1, g1, g2, g3, g4⟩ := R1.ow i l1 e1
          rw [h1] at g1
          cases g1
          have q := hf (Av A ks) m1 k ws1 l1 x dx (.inr (mem_ks.mpr ⟨i, h1⟩)) g3 g4 hx
          show Lo XW pens _ A P ks env v m1 (lift (f (.ref k) x m1)) ((ofO (g l1 dx)).bind fun q => .ok (q.1, o1.set i (some q.2)))
          cases e2 : g l1 dx with
          | none => trivial
          | some p =>
            rw [e2] at q
            obtain ⟨w, ws', q1, q2, q3⟩ := q
            rw [q1]
            have ak : Av A ks k := .inr (mem_ks.mpr ⟨i, h1⟩)
            have kp : Kp (Av A ks) m1 (Av A ks) (m1.set k (.lst ws')) := Kp.set _ _ ak
            have M := R1.mut e1 h1 (m' := m1.set k (.lst ws')) (ws' := ws') (l' := p.2) (by rw [List.length_set]; exact Nat.le_refl _) (fun j hj hn => by rw [List.getElem?_set_ne (fun z => hn z.symm)]) (by rw [List.getElem?_set_self (seqAt_lt g3)]) (q3.mono kp)
            exact ⟨w, _, rfl, M.1, M.2, q2.mono kp⟩
theorem l_bm0 {f : OpM} {g : PMut} {i : Nat} (hf : QMut f g) : JL (dBM0 .list f (dVar i)) (lBM g i lNil) := l_bm (as := dNil) hf l_nil
def appendV : PMut := fun l xs => match xs with
  | [d] => if l.length < 100000 then some (.non, l ++ [d]) else none
  | _ => none
def extendV : PMut := fun l xs => match xs with
  | [.lst l'] => if l.length + l'.length ≤ 100000 then some (.non, l ++ l') else none
  | _ => none
def popV : PMut := fun l xs => match xs with
  | [] => (l[l.length - 1]?).map fun w => (w, l.dropLast)
  | [.int i] => if 0 ≤ i ∧ i < 100000 then (l[i.toNat]?).map fun w => (w, l.eraseIdx i.toNat) else none
  | _ => none
theorem q_append : QMut appendW appendV := fun A m k ws l us xs ak hk hl hu => by
  unfold appendV
  split
  · rename_i p e
    split at e
    · cases hu with
      | cons h1 h2 =>
        cases h2
        split at e
        · rename_i c
          cases e
          refine ⟨.non, ws ++ [_], ?_, .non, hl.append (.cons h1 .nil)⟩
          unfold appendW
          dsimp only
          rw [lstOf_lst hk]
          dsimp only
          rw [if_pos (by rw [hl.length]; exact c)]
        · cases e
    · cases e
  · trivial
theorem q_extend : QMut extendW extendV := fun A m k ws l us xs ak hk hl hu => by
  unfold extendV
  split
  · rename_i p e
    split at e
    · cases hu with
      | cons h1 h2 =>
        cases h2
        cases h1 with
        | @lst j ws2 l2 nj hj hs =>
          split at e
          · rename_i c
            cases e
            refine ⟨.non, ws ++ ws2, ?_, .non, hl.append hs⟩
            unfold extendW
            dsimp only
            rw [lstOf_lst hk, lstOf_lst hj]
            dsimp only
            rw [if_pos (by rw [hl.length, hs.length]; exact c)]
          · cases e
    · cases e
  · trivial
theorem q_pop : QMut popW popV := fun A m k ws l us xs ak hk hl hu => by
  unfold popV
  split
  · rename_i p e
    split at e
    · cases hu
      obtain ⟨x, e1, e2⟩ := Option.map_eq_some_iff.mp e
      subst e2
      obtain ⟨w, h1, h2⟩ := hl.get e1
      refine ⟨w, ws.dropLast, ?_, h2, hl.dropLast⟩
      show (match lstOf m k with
        | some l => (l[l.length - 1]?).map fun w => (w, m.set k (.lst l.dropLast))
        | none => none) = _
      rw [lstOf_lst hk]
      dsimp only
      rw [hl.length, h1]
      rfl
    · cases hu with
      | cons g1 g2 =>
        cases g2
        cases g1
        split at e
        · rename_i i c
          obtain ⟨x, e1, e2⟩ := Option.map_eq_some_iff.mp e
          subst e2
          obtain ⟨w, h1, h2⟩ := hl.get e1
          refine ⟨w, ws.eraseIdx i.toNat, ?_, h2, hl.eraseIdx _⟩
          show (match lstOf m k with
            | some l => if 0 ≤ i ∧ i < 100000 then (l[i.toNat]?).map fun w => (w, m.set k (.lst (l.eraseIdx i.toNat))) else none
            | none => none) = _
          rw [lstOf_lst hk]
          dsimp only
          rw [if_pos c, h1]
          rfl
        · cases e
    · cases e
  · trivial
end Nw
set_option Elab.async false
set_option linter.all false
set_option maxRecDepth 100000
set_option maxHeartbeats 1000000
namespace Nw
open PySem PySem.Spec PyProof.Rows L2

/-! ### statements -/
inductive VOu where
  | nx (v : VEnv) (o : OEnv) | bk (v : VEnv) (o : OEnv) | ct (v : VEnv) (o : OEnv) | rt (d : D) (o : OEnv) | exc (c : Str) (args : List D) | bad
abbrev VS := VEnv → OEnv → VOu
def So (pens : Pn) (b : Mem) (A P : Nat → Prop) (ks : List (Option Nat)) (m : Mem) (x : Ou) : VOu → Prop
  | .nx v o => ∃ ks' env' m', x = .fl (.nx env') m' ∧ Rel pens b A P ks' env' m' v o ∧ Kp (Av A ks) m (Av A ks') m'
  | .bk v o => ∃ ks' env' m', x = .fl (.bk env') m' ∧ Rel pens b A P ks' env' m' v o ∧ Kp (Av A ks) m (Av A ks') m'
  | .ct v o => ∃ ks' env' m', x = .fl (.ct env') m' ∧ Rel pens b A P ks' env' m' v o ∧ Kp (Av A ks) m (Av A ks') m'
  | .rt d o => ∃ ks' env' m' w v', x = .fl (.rt w) m' ∧ Rel pens b A P ks' env' m' v' o ∧ Vw A m' w d
  | .exc c as => ∃ ks' env' m' ws v' o', x = .exc ⟨c, ws⟩ env' m' ∧ Rel pens b A P ks' env' m' v' o' ∧ Vws A m' ws as
  | .bad => True
def SQ (pens : Pn) (u : DS) (s : VS) : Prop := ∀ b A P ks env m v o, Rel pens b A P ks env m v o → So pens b A P ks m (u env m) (s v o)
def toV {α : Type} (x : Ro α) (f : α → VOu) : VOu := match x with
  | .ok a => f a
  | .exc c as => .exc c as
  | .bad => .bad
/-- what raises is not told here -/
def toL {α : Type} (x : Ro α) (f : α → VOu) : VOu := match x with
  | .ok a => f a
  | _ => .bad
def thenV (x : VOu) (f : VEnv → OEnv → VOu) : VOu := match x with
  | .nx v o => f v o
  | x => x
section
variable {pens : Pn} {b : Mem} {A P : Nat → Prop} {ks : List (Option Nat)} {env : Env} {m : Mem} {v : VEnv} {o : OEnv}
theorem So.from {ks1 : List (Option Nat)} {m1 : Mem} {x : Ou} {y : VOu} (kp : Kp (Av A ks) m (Av A ks1) m1) (h : So pens b A P ks1 m1 x y) : So pens b A P ks m x y := by
  cases y with
  | nx v o => obtain ⟨k, e, m', h1, h2, h3⟩ := h; exact ⟨k, e, m', h1, h2, kp.trans h3⟩
  | bk v o => obtain ⟨k, e, m', h1, h2, h3⟩ := h; exact ⟨k, e, m', h1, h2, kp.trans h3⟩
  | ct v o => obtain ⟨k, e, m', h1, h2, h3⟩ := h; exact ⟨k, e, m', h1, h2, kp.trans h3⟩
  | rt d o => exact h
  | exc c as => exact h
  | bad => trivial
/-- behind a reading of slots -/
theorem So.toQ {α β : Type} {A0 : Nat → Prop} {V : Mem → α → β → Prop} {x : Out α} {y : Ro β} {f : α → Mem → Ou} {g : β → VOu} (R : Rel pens b A P ks env m v o) (hA : ∀ k, A k → A0 k ∨ ∀ (c : Str) (as : List D), y = .exc c as → False) (h : Qo A0 m V x y)
    (k : ∀ r a d, V (m ++ r) a d → So pens b A P ks (m ++ r) (f a (m ++ r)) (g d)) : So pens b A P ks m (Nw.toS env x f) (toV y g) := by
  cases y with
  | bad => trivial
  | exc c as =>
    obtain ⟨ws, r, e, hv⟩ := h
    subst e
    exact ⟨ks, env, _, ws, v, o, rfl, R.app r, hv.mono (Kp.less _ fun k z => (hA k z).elim id fun z => (z c as rfl).elim)⟩
  | ok d =>
    obtain ⟨a, r, e, hv⟩ := h
    subst e
    exact So.from (Kp.app _ _ r) (k r a d hv)
theorem So.toLo {α β : Type} {V : VX α β} {x : Out α} {y : Ro (β × OEnv)} {f : α → Mem → Ou} {g : β → OEnv → VOu} (h : Lo V pens b A P ks env v m x y)
    (k : ∀ a d m' o', Rel pens b A P ks env m' v o' → V (Av A ks) m' a d → So pens b A P ks m' (f a m') (g d o')) : So pens b A P ks m (Nw.toS env x f) (toL y fun p => g p.1 p.2) := by
  cases y with
  | bad => trivial
  | exc _ _ => trivial
  | ok p =>
    obtain ⟨a, m', e, R, kp, hv⟩ := h
    subst e
    exact So.from kp (k a p.1 m' p.2 R hv)
end
def vNext : VS := fun v o => .nx v o
def vBreak : VS := fun v o => .bk v o
def vCont : VS := fun v o => .ct v o
def vSeq (a b : VS) : VS := fun v o => thenV (a v o) b
/-- a value that is thrown away: what is done of a check -/
def vExpr (q : VE) : VS := fun v o => toV (q v []) fun _ => .nx v o
def vExprL (q : VL) : VS := fun v o => toL (q v o) fun p => .nx v p.2
def vRet (q : VE) : VS := fun v o => toV (q v []) fun d => .rt d o
/-- where no list is lent: any slot may be read -/
def vRetO (q : VE) : VS := fun v o => toV (q v o) fun d => .rt d o
def vRetL (q : VL) : VS := fun v o => toL (q v o) fun p => .rt p.1 p.2
def vRetN : VS := fun _ o => .rt .non o
/-- a test reads any slot; what is raised in it holds no list -/
def toT {α : Type} (x : Ro α) (f : α → VOu) : VOu := match x with
  | .ok a => f a
  | .exc c as => if D.flats as = true then .exc c as else .bad
  | .bad => .bad
def vIfS (t : VT) (a b : VS) : VS := fun v o => toT (t v o) fun c => if c = true then a v o else b v o
def vIfL (t : VLT) (a b : VS) : VS := fun v o => toL (t v o) fun p => if p.1 = true then a v p.2 else b v p.2
def toG (x : Ro (VEnv × OEnv)) : VOu := match x with
  | .ok p => .nx p.1 p.2
  | _ => .bad
def vSet (q : VE) (g : VG) : VS := fun v o => toV (q v []) fun d => toG (g d v o)
def vSetL (q : VL) (g : VG) : VS := fun v o => toL (q v o) fun p => toG (g p.1 v p.2)
/-- a new list, one's own -/
def vNew (q : VE) (i : Nat) : VS := fun v o => toV (q v []) fun d => match d with
  | .lst l => .nx (v.set i none) (o.set i (some l))
  | _ => .bad
def vMove (j i : Nat) : VS := fun v o => match o[j]? with
  | some (some l) => .nx (v.set i (some (.lst l))) ((o.set j none).set i none)
  | _ => .bad
def vPar (i j : Nat) (a : VA) : VS := fun v o => toV (a v []) fun ds => match ds with
  | [x, y] => .nx ((v.set i (some x)).set j (some y)) ((o.set i none).set j none)
  | _ => .bad
def vParL (i j : Nat) (a : VLA) : VS := fun v o => toL (a v o) fun p => match p.1 with
  | [x, y] => .nx ((v.set i (some x)).set j (some y)) ((p.2.set i none).set j none)
  | _ => .bad
def vAug (i : Nat) (f : P2) (q : VE) : VS := fun v o => match v[i]? with
  | some (some a) => toV (q v []) fun x => toV (ofO (f a x)) fun d => .nx (v.set i (some d)) (o.set i none)
  | _ => .bad
def vRaise0 (c : Str) : VS := fun _ _ => .exc c []
/-- x[i] = e, x one's own -/
def vSetIx (i : Nat) (q qi : VL) : VS := fun v o => toL (q v o) fun p => toL (qi v p.2) fun p2 => match p2.2[i]?, p2.1 with
  | some (some l), .int j => (match ixN l.length j with
    | some n => .nx v (p2.2.set i (some (l.set n p.1)))
    | none => .bad)
  | _, _ => .bad
section
variable {pens : Pn} {u w : DS} {su sw : VS} {a : DE} {q : VE} {l : VL} {t : DT} {qt : VT} {lt : VLT}
theorem sq_next : SQ pens sNext vNext := fun b A P ks env m v o R => ⟨ks, env, m, rfl, R, Kp.refl _ _⟩
theorem sq_break : SQ pens sBreak vBreak := fun b A P ks env m v o R => ⟨ks, env, m, rfl, R, Kp.refl _ _⟩
theorem sq_cont : SQ pens sCont vCont := fun b A P ks env m v o R => ⟨ks, env, m, rfl, R, Kp.refl _ _⟩
theorem sq_seq (h : SQ pens u su) (h2 : SQ pens w sw) : SQ pens (sSeq u w) (vSeq su sw) := fun b A P ks env m v o R => by
  have g := h b A P ks env m v o R
  show So pens b A P ks m (thenS (u env m) w) (thenV (su v o) sw)
  cases e : su v o with
  | nx v1 o1 =>
    rw [e] at g
    obtain ⟨k, e1, m1, h1, h2', h3⟩ := g
    rw [h1]
    exact So.from h3 (h2 b A P k e1 m1 v1 o1 h2')
  | bk v1 o1 => rw [e] at g; obtain ⟨k, e1, m1, h1, h2', h3⟩ := g; exact ⟨k, e1, m1, by rw [h1]; rfl, h2', h3⟩
  | ct v1 o1 => rw [e] at g; obtain ⟨k, e1, m1, h1, h2', h3⟩ := g; exact ⟨k, e1, m1, by rw [h1]; rfl, h2', h3⟩
  | rt d o1 => rw [e] at g; obtain ⟨k, e1, m1, w1, v1, h1, h2', h3⟩ := g; exact ⟨k, e1, m1, w1, v1, by rw [h1]; rfl, h2', h3⟩
  | exc c as => rw [e] at g; obtain ⟨k, e1, m1, w1, v1, o1, h1, h2', h3⟩ := g; exact ⟨k, e1, m1, w1, v1, o1, by rw [h1]; rfl, h2', h3⟩
  | bad => trivial
theorem sq_expr (h : QE a q) : SQ pens (sExpr a) (vExpr q) := fun b A P ks env m v o R =>
  So.toQ R (fun k z => .inl (.inl z)) (h (Av A ks) env m v [] R.bd R.strict) fun r x d hx => ⟨ks, env, _, rfl, R.app r, Kp.refl _ _⟩
theorem sq_exprL (h : JL a l) : SQ pens (sExpr a) (vExprL l) := fun b A P ks env m v o R =>
  So.toLo (g := fun _ o' => .nx v o') (h _ _ _ _ _ _ _ _ _ R) fun x d m1 o1 R1 hx => ⟨ks, env, _, rfl, R1, Kp.refl _ _⟩
theorem sq_ret (h : QE a q) : SQ pens (sRet a) (vRet q) := fun b A P ks env m v o R =>
  So.toQ R (fun k z => .inl (.inl z)) (h (Av A ks) env m v [] R.bd R.strict) fun r x d hx => ⟨ks, env, _, x, v, rfl, R.app r, Vw.mono (Kp.less _ fun k z => .inl z) hx⟩
theorem sq_retO {n : Nat} (h : QE a q) : SQ ⟨fun _ => false, n⟩ (sRet a) (vRetO q) := fun b A P ks env m v o R =>
  So.toQ R (fun k z => .inl z) (h A env m v o R.bdA R.quiet) fun r x d hx => ⟨ks, env, _, x, v, rfl, R.app r, hx⟩
theorem sq_retL (h : JL a l) : SQ pens (sRet a) (vRetL l) := fun b A P ks env m v o R =>
  So.toLo (g := fun d o' => .rt d o') (h _ _ _ _ _ _ _ _ _ R) fun x d m1 o1 R1 hx => ⟨ks, env, _, x, v, rfl, R1, Vw.mono (Kp.less _ fun k z => .inl z) hx⟩
theorem sq_retN : SQ pens sRetN vRetN := fun b A P ks env m v o R => ⟨ks, env, m, .non, v, rfl, R, .non⟩
theorem sq_if (h : QT t qt) (h1 : SQ pens u su) (h2 : SQ pens w sw) : SQ pens (sIf t u w) (vIfS qt su sw) := fun b A P ks env m v o R => by
  have g := h (fun _ => False) env m v o (fun _ z => z.elim) R.loose
  show So pens b A P ks m (Nw.toS env (t env m) fun c m1 => if c = true then u env m1 else w env m1) (toT (qt v o) fun c => if c = true then su v o else sw v o)
  cases e : qt v o with
  | bad => trivial
  | exc c as =>
    rw [e] at g
    obtain ⟨ws, r, e1, hv⟩ := g
    show So pens b A P ks m _ (if D.flats as = true then .exc c as else .bad)
    by_cases hf : D.flats as = true
    · rw [if_pos hf, e1]
      exact ⟨ks, env, _, ws, v, o, rfl, R.app r, hv.flats hf⟩
    · rw [if_neg hf]
      trivial
  | ok c =>
    rw [e] at g
    obtain ⟨c', r, e1, hv⟩ := g
    cases (show c' = c from hv)
    rw [e1]
    refine So.from (Kp.app _ _ r) ?_
    show So pens b A P ks (m ++ r) (if c = true then u env (m ++ r) else w env (m ++ r)) (if c = true then su v o else sw v o)
    cases c with
    | true => exact h1 b A P ks env _ v o (R.app r)
    | false => exact h2 b A P ks env _ v o (R.app r)
theorem sq_ifL (h : JLT t lt) (h1 : SQ pens u su) (h2 : SQ pens w sw) : SQ pens (sIf t u w) (vIfL lt su sw) := fun b A P ks env m v o R =>
  So.toLo (g := fun c o' => if c = true then su v o' else sw v o') (h _ _ _ _ _ _ _ _ _ R) fun x d m1 o1 R1 hx => by
    cases (show x = d from hx)
    cases x with
    | true => exact h1 b A P ks env _ v o1 R1
    | false => exact h2 b A P ks env _ v o1 R1
theorem So.tg {b : Mem} {A P : Nat → Prop} {ks : List (Option Nat)} {env : Env} {m : Mem} {v : VEnv} {o : OEnv} {g : DG} {qg : VG} {x : W} {d : D} (hg : GQ g qg) (R : Rel pens b A P ks env m v o) (hx : Vw (Av A ks) m x d) : So pens b A P ks m (Nw.toS env (g x env m) fun env2 m2 => .fl (.nx env2) m2) (toG (qg d v o)) := by
  have h := hg (Av A ks) m x d env v o hx
  cases e : qg d v o with
  | bad => trivial
  | exc _ _ => trivial
  | ok p =>
    rw [e] at h
    obtain ⟨env2, e1, s1⟩ := h
    obtain ⟨ks2, R2, h2⟩ := R.sets s1 (fun k z => z)
    rw [e1]
    exact ⟨ks2, env2, m, rfl, R2, Kp.less _ h2⟩
theorem sq_set {g : DG} {qg : VG} (h : QE a q) (hg : GQ g qg) : SQ pens (sSet a g) (vSet q qg) := fun b A P ks env m v o R =>
  So.toQ R (fun k z => .inl (.inl z)) (h (Av A ks) env m v [] R.bd R.strict) fun r x d hx => So.tg hg (R.app r) hx
theorem sq_setL {g : DG} {qg : VG} (h : JL a l) (hg : GQ g qg) : SQ pens (sSet a g) (vSetL l qg) := fun b A P ks env m v o R =>
  So.toLo (g := fun d o' => toG (qg d v o')) (h _ _ _ _ _ _ _ _ _ R) fun x d m1 o1 R1 hx => So.tg hg R1 hx
/-- a list that is told is new -/
def Fr (A : Nat → Prop) (m : Mem) (x : Out W) : Ro D → Prop
  | .ok (.lst l) => ∃ k r ws, x = .ok (.ref k) (m ++ r) ∧ m.length ≤ k ∧ (m ++ r)[k]? = some (.lst ws) ∧ Vws (fun j => A j ∨ j = k) (m ++ r) ws l
  | .exc c as => ∃ ws r, x = .exc ⟨c, ws⟩ (m ++ r) ∧ Vws A (m ++ r) ws as
  | _ => True
def QF (e : DE) (q : VE) : Prop := ∀ A env m v o, Bd A m → RQ A env m v o → Fr A m (e env m) (q v o)
theorem sq_new {i : Nat} (h : QF a q) (hp : pens.p i = false) : SQ pens (sSet a (gNam i)) (vNew q i) := fun b A P ks env m v o R => by
  have g := h (Av A ks) env m v [] R.bd R.strict
  show So pens b A P ks m (Nw.toS env (a env m) fun w m1 => Nw.toS env (gNam i w env m1) fun env2 m2 => .fl (.nx env2) m2) (toV (q v []) fun d => match d with
    | .lst l => .nx (v.set i none) (o.set i (some l))
    | _ => .bad)
  cases e : q v [] with
  | bad => trivial
  | exc c as =>
    rw [e] at g
    obtain ⟨ws, r, e1, hv⟩ := g
    rw [e1]
    exact ⟨ks, env, _, ws, v, o, rfl, R.app r, hv.mono (Kp.less _ fun k z => .inl z)⟩
  | ok d =>
    rw [e] at g
    cases d with
    | lst l =>
      obtain ⟨k, r, ws, e1, e3, e4, e5⟩ := g
      rw [e1]
      have S := R.setO (i := i) hp e3 e4 e5
      exact ⟨_, _, _, rfl, S.1, S.2⟩
    | _ => trivial
theorem sq_move {i j : Nat} (hp : pens.p j = false) (ij : i ≠ j) : SQ pens (sSet (dVar j) (gNam i)) (vMove j i) := fun b A P ks env m v o R => by
  show So pens b A P ks m (Nw.toS env (dVar j env m) fun w m1 => Nw.toS env (gNam i w env m1) fun env2 m2 => .fl (.nx env2) m2) (vMove j i v o)
  unfold vMove
  cases e : o[j]? with
  | none => trivial
  | some x => cases x with
    | none => trivial
    | some l =>
      obtain ⟨k, h1, ks', R', h2⟩ := R.move hp e ij
      rw [s_var, h1]
      exact ⟨ks', _, m, rfl, R', Kp.less _ h2⟩
theorem two_sets {b : Mem} {A P : Nat → Prop} {ks : List (Option Nat)} {env : Env} {m : Mem} {v : VEnv} {o : OEnv} {i j : Nat} {x y : W} {d e : D} (R : Rel pens b A P ks env m v o) (hx : Vw (Av A ks) m x d) (hy : Vw (Av A ks) m y e) :
    So pens b A P ks m (.fl (.nx ((env.set i (some x)).set j (some y))) m) (.nx ((v.set i (some d)).set j (some e)) ((o.set i none).set j none)) :=
  ⟨_, _, m, rfl, (R.setV hx i).setV (hy.mono (Kp.less _ fun _ z => Av.less z)) j, Kp.less _ fun _ z => (Av.less z).less⟩
theorem sq_par {i j : Nat} {as : DA} {qs : VA} (h : QA as qs) : SQ pens (sPar i j as) (vPar i j qs) := fun b A P ks env m v o R =>
  So.toQ R (fun k z => .inl (.inl z)) (h (Av A ks) env m v [] R.bd R.strict) fun r x d hx => by
    cases hx with
    | nil => trivial
    | cons h1 h2 => cases h2 with
      | nil => trivial
      | cons h2 h3 => cases h3 with
        | nil => exact two_sets (R.app r) h1 h2
        | cons _ _ => trivial
theorem sq_parL {i j : Nat} {as : DA} {ls : VLA} (h : JLA as ls) : SQ pens (sPar i j as) (vParL i j ls) := fun b A P ks env m v o R => by
  unfold sPar vParL
  refine So.toLo (g := fun p o' => match p with
    | [x, y] => .nx ((v.set i (some x)).set j (some y)) ((o'.set i none).set j none)
    | _ => .bad) (h _ _ _ _ _ _ _ _ _ R) ?_
  intro x d m1 o1 R1 hx
  cases hx with
  | nil => trivial
  | cons h1 h2 => cases h2 with
    | nil => trivial
    | cons h2 h3 => cases h3 with
      | nil => exact two_sets R1 h1 h2
      | cons _ _ => trivial
theorem sq_aug {i : Nat} {f : Op2} {g : P2} (hf : Q2 f g) (h : QE a q) : SQ pens (sAug i f a) (vAug i g q) := fun b A P ks env m v o R => by
  unfold vAug
  cases e : v[i]? with
  | none => trivial
  | some x => cases x with
    | none => trivial
    | some d0 =>
      obtain ⟨w0, h1, h2⟩ := R.vw i d0 e
      rw [s_aug, h1]
      dsimp only [s_augR]
      rw [s_augR]
      exact So.toQ R (fun k z => .inl (.inl z)) (h (Av A ks) env m v [] R.bd R.strict) fun r x d hx =>
        So.toQ (R.app r) (fun k z => .inl (.inl z)) (hf (Av A ks) _ w0 x d0 d (R.app r).bd (h2.mono (Kp.app _ _ _)) hx).lift fun r2 y d2 hy =>
          ⟨_, _, _, rfl, ((R.app r).app r2).setV hy i, Kp.less _ fun _ z => Av.less z⟩
theorem sq_raise0 (c : Str) : SQ pens (sRaise0 c) (vRaise0 c) := fun b A P ks env m v o R => ⟨ks, env, m, [], v, o, rfl, R, .nil⟩
theorem sq_setIx {i : Nat} {ix : DE} {li : VL} (h : JL a l) (hi : JL ix li) : SQ pens (sSet a (gSb (dVar i) ix)) (vSetIx i l li) := fun b A P ks env m v o R =>
  So.toLo (g := fun p o' => toL (li v o') fun p2 => match p2.2[i]?, p2.1 with
    | some (some l), .int j => (match ixN l.length j with
      | some n => .nx v (p2.2.set i (some (l.set n p)))
      | none => .bad)
    | _, _ => .bad) (h _ _ _ _ _ _ _ _ _ R) fun x d m1 o1 R1 hx => by
    have g := hi _ _ _ _ _ _ _ _ _ R1
    cases e : li v o1 with
    | bad => trivial
    | exc _ _ => trivial
    | ok p2 =>
      obtain ⟨d2, o2⟩ := p2
      rw [e] at g
      obtain ⟨y, m2, e2, R2, kp, hy⟩ := g
      clear e
      have R2 : Rel pens b A P ks env m2 v o2 := R2
      have hy : Vw (Av A ks) m2 y d2 := hy
      show So pens b A P ks m1 (Nw.toS env (gSb (dVar i) ix x env m1) fun env2 m2 => .fl (.nx env2) m2) (match (generalizing := false) o2[i]?, d2 with
        | some (some l), .int j => (match ixN l.length j with
          | some n => .nx v (o2.set i (some (l.set n d)))
          | none => .bad)
        | _, _ => .bad)
      cases e3 : o2[i]? with
      | none => trivial
      | some z => cases z with
        | none => trivial
        | some l2 =>
          obtain ⟨k, ws, g1, g2, g3, g4⟩ := R2.ow i l2 e3
          cases hy with
          | int j =>
            dsimp only
            cases e4 : ixN l2.length j with
            | none => trivial
            | some n =>
              rw [s_gsb, s_var, g2]
              simp only [s_varR, s_bind_ok]
              rw [e2]
              simp only [s_bind_ok]
              unfold setW
              dsimp only
              rw [lstOf_lst g3]
              dsimp only
              rw [g4.length, e4]
              have ak : Av A ks k := .inr (mem_ks.mpr ⟨i, g1⟩)
              have kp2 : Kp (Av A ks) m2 (Av A ks) (m2.set k (.lst (ws.set n x))) := Kp.set _ _ ak
              have M := R2.mut e3 g1 (m' := m2.set k (.lst (ws.set n x))) (ws' := ws.set n x) (l' := l2.set n d) (by rw [List.length_set]; exact Nat.le_refl _) (fun j hj hn => by rw [List.getElem?_set_ne (fun z => hn z.symm)]) (by rw [List.getElem?_set_self (seqAt_lt g3)]) (((g4.mono kp2).set ((Vw.mono kp hx).mono kp2) n))
              exact ⟨ks, env, _, rfl, M.1, kp.trans M.2⟩
          | _ => trivial
end

/-! ### loops -/
def loopV (g : VG) (body : VS) : List D → VEnv → OEnv → VOu
  | [], v, o => .nx v o
  | d :: ds, v, o => match g d v o with
    | .ok p => (match body p.1 p.2 with
      | .nx v2 o2 => loopV g body ds v2 o2
      | .ct v2 o2 => loopV g body ds v2 o2
      | .bk v2 o2 => .nx v2 o2
      | x => x)
    | _ => .bad
def vFor (it : VI) (g : VG) (body : VS) : VS := fun v o => toV (it v []) fun items => loopV g body items v o
def whileV (t : VT) (body : VS) : Nat → VEnv → OEnv → VOu
  | 0, _, _ => .bad
  | f + 1, v, o => toT (t v o) fun c => if c = true then (match body v o with
      | .nx v2 o2 => whileV t body f v2 o2
      | .ct v2 o2 => whileV t body f v2 o2
      | .bk v2 o2 => .nx v2 o2
      | x => x) else .nx v o
def vWhile (t : VT) (body : VS) : VS := whileV t body fuelW
theorem loop_run {pens : Pn} {g : DG} {qg : VG} {body : DS} {qb : VS} (hg : GQ g qg) (hbd : SQ pens body qb) {src : Src} {items : List D} {b : Mem} {A P : Nat → Prop} {A0 : Nat → Prop} {m0 : Mem} (hs : SrcOk A0 m0 src items) :
    ∀ (d i fuel : Nat) (ks : List (Option Nat)) (env : Env) (m : Mem) (v : VEnv) (o : OEnv), i + d = items.length → d < fuel → Kp A0 m0 (Av A ks) m → Rel pens b A P ks env m v o → So pens b A P ks m (loopL src g body fuel i env m) (loopV qg qb (items.drop i) v o)
  | d, i, 0, _, _, _, _, _, _, hf, _, _ => absurd hf (Nat.not_lt_zero _)
  | 0, i, fuel + 1, ks, env, m, v, o, hi, _, kp, R => by
    have hi : i = items.length := hi
    subst hi
    obtain ⟨ow, e1, e2⟩ := hs.2 _ _ kp items.length (Nat.le_refl _)
    rw [List.getElem?_eq_none (Nat.le_refl _)] at e2
    cases (show ow = none from e2)
    rw [List.drop_length]
    unfold loopL
    rw [e1]
    exact ⟨ks, env, m, rfl, R, Kp.refl _ _⟩
  | d + 1, i, fuel + 1, ks, env, m, v, o, hi, hf, kp, R => by
    have hlt : i < items.length := by omega
    obtain ⟨ow, e1, e2⟩ := hs.2 _ _ kp i (Nat.le_of_lt hlt)
    rw [List.getElem?_eq_getElem hlt] at e2
    obtain ⟨w, rfl, hw⟩ := e2
    rw [List.drop_eq_getElem_cons hlt]
    unfold loopL loopV
    rw [e1]
    dsimp only
    have h := hg (Av A ks) m w items[i] env v o hw
    cases e : qg items[i] v o with
    | bad => trivial
    | exc _ _ => trivial
    | ok p =>
      rw [e] at h
      obtain ⟨env2, e2, s2⟩ := h
      obtain ⟨ks2, R2, h2⟩ := R.sets s2 (fun k z => z)
      rw [e2]
      dsimp only
      have kp2 : Kp (Av A ks) m (Av A ks2) m := Kp.less _ h2
      have g := hbd b A P ks2 env2 m p.1 p.2 R2
      cases q : qb p.1 p.2 with
      | bad => trivial
      | nx v3 o3 =>
        rw [q] at g
        obtain ⟨k3, e3, m3, f1, f2, f3⟩ := g
        rw [f1]
        exact So.from (kp2.trans f3) (loop_run hg hbd hs d (i + 1) fuel k3 e3 m3 v3 o3 (by omega) (by omega) ((kp.trans kp2).trans f3) f2)
      | ct v3 o3 =>
        rw [q] at g
        obtain ⟨k3, e3, m3, f1, f2, f3⟩ := g
        rw [f1]
        exact So.from (kp2.trans f3) (loop_run hg hbd hs d (i + 1) fuel k3 e3 m3 v3 o3 (by omega) (by omega) ((kp.trans kp2).trans f3) f2)
      | bk v3 o3 =>
        rw [q] at g
        obtain ⟨k3, e3, m3, f1, f2, f3⟩ := g
        rw [f1]
        exact ⟨k3, e3, m3, rfl, f2, kp2.trans f3⟩
      | rt d3 o3 =>
        rw [q] at g
        obtain ⟨k3, e3, m3, w3, v3, f1, f2, f3⟩ := g
        rw [f1]
        exact ⟨k3, e3, m3, w3, v3, rfl, f2, f3⟩
      | exc c as =>
        rw [q] at g
        obtain ⟨k3, e3, m3, w3, v3, o3, f1, f2, f3⟩ := g
        rw [f1]
        exact ⟨k3, e3, m3, w3, v3, o3, rfl, f2, f3⟩
theorem sq_for {pens : Pn} {it : DI} {qi : VI} {g : DG} {qg : VG} {body : DS} {qb : VS} (hi : QI it qi) (hg : GQ g qg) (hbd : SQ pens body qb) : SQ pens (sFor it g body) (vFor qi qg qb) := fun b A P ks env m v o R =>
  So.toQ R (fun k z => .inl (.inl z)) (hi (Av A ks) env m v [] R.bd R.strict) fun r src items hs => by
    have := loop_run hg hbd hs (b := b) (A := A) (P := P) items.length 0 (turnsS src (m ++ r) + 1) ks env (m ++ r) v o (by omega) (by rw [hs.1]; omega) (Kp.refl _ _) (R.app r)
    rwa [List.drop_zero] at this
theorem while_run {pens : Pn} {t : DT} {qt : VT} {body : DS} {qb : VS} (ht : QT t qt) (hbd : SQ pens body qb) {b : Mem} {A P : Nat → Prop} :
    ∀ (fuel : Nat) (ks : List (Option Nat)) (env : Env) (m : Mem) (v : VEnv) (o : OEnv), Rel pens b A P ks env m v o → So pens b A P ks m (whileL t body fuel env m) (whileV qt qb fuel v o)
  | 0, _, _, _, _, _, _ => trivial
  | fuel + 1, ks, env, m, v, o, R => by
    have g := ht (fun _ => False) env m v o (fun _ z => z.elim) R.loose
    unfold whileL whileV
    cases e : qt v o with
    | bad => trivial
    | exc c as =>
      rw [e] at g
      obtain ⟨ws, r, e1, hv⟩ := g
      show So pens b A P ks m _ (if D.flats as = true then .exc c as else .bad)
      by_cases hf : D.flats as = true
      · rw [if_pos hf, e1]
        exact ⟨ks, env, _, ws, v, o, rfl, R.app r, hv.flats hf⟩
      · rw [if_neg hf]
        trivial
    | ok c =>
      rw [e] at g
      obtain ⟨c', r, e1, hv⟩ := g
      cases (show c' = c from hv)
      rw [e1]
      simp only [s_toS_ok]
      refine So.from (Kp.app _ _ r) ?_
      have R1 := R.app r
      cases c with
      | false => exact ⟨ks, env, _, rfl, R1, Kp.refl _ _⟩
      | true =>
        rw [if_pos rfl]
        show So pens b A P ks (m ++ r) _ (match qb v o with
          | .nx v2 o2 => whileV qt qb fuel v2 o2
          | .ct v2 o2 => whileV qt qb fuel v2 o2
          | .bk v2 o2 => .nx v2 o2
          | x => x)
        have g := hbd b A P ks env _ v o R1
        cases q : qb v o with
        | bad => trivial
        | nx v3 o3 =>
          rw [q] at g
          obtain ⟨k3, e3, m3, f1, f2, f3⟩ := g
          rw [f1]
          exact So.from f3 (while_run ht hbd fuel k3 e3 m3 v3 o3 f2)
        | ct v3 o3 =>
          rw [q] at g
          obtain ⟨k3, e3, m3, f1, f2, f3⟩ := g
          rw [f1]
          exact So.from f3 (while_run ht hbd fuel k3 e3 m3 v3 o3 f2)
        | bk v3 o3 =>
          rw [q] at g
          obtain ⟨k3, e3, m3, f1, f2, f3⟩ := g
          rw [f1]
          exact ⟨k3, e3, m3, rfl, f2, f3⟩
        | rt d3 o3 =>
          rw [q] at g
          obtain ⟨k3, e3, m3, w3, v3, f1, f2, f3⟩ := g
          rw [f1]
          exact ⟨k3, e3, m3, w3, v3, rfl, f2, f3⟩
        | exc c as =>
          rw [q] at g
          obtain ⟨k3, e3, m3, w3, v3, o3, f1, f2, f3⟩ := g
          rw [f1]
          exact ⟨k3, e3, m3, w3, v3, o3, rfl, f2, f3⟩
theorem sq_while {pens : Pn} {t : DT} {qt : VT} {body : DS} {qb : VS} (ht : QT t qt) (hbd : SQ pens body qb) : SQ pens (sWhile t body) (vWhile qt qb) := fun b A P ks env m v o R => while_run ht hbd fuelW ks env m v o R

/-! ### try, where the handler hands back a value -/
def vTry (s : VS) (h : Str → List D → Option D) : VS := fun v o => match s v o with
  | .exc c as => (match h c as with
    | some d => .rt d []
    | none => .bad)
  | x => x
def HQ (n : Nat) (g : Exn → Env → Option (Fl × Mem)) (h : Str → List D → Option D) : Prop := ∀ A m c ws as env d, env.length = n → Vws A m ws as → h c as = some d → ∃ w ex, g ⟨c, ws⟩ env = some (.rt w, ex) ∧ ∀ A' m', Vw A' m' w d
theorem sq_try {pens : Pn} {u : DS} {s : VS} {g : Exn → Env → Option (Fl × Mem)} {h : Str → List D → Option D} (hu : SQ pens u s) (hh : HQ pens.n g h) : SQ pens (sTry u g) (vTry s h) := fun b A P ks env m v o R => by
  have q := hu b A P ks env m v o R
  show So pens b A P ks m (tryR (u env m) g) (vTry s h v o)
  unfold vTry
  cases e : s v o with
  | bad => trivial
  | nx v1 o1 => rw [e] at q; obtain ⟨k, e1, m1, h1, h2, h3⟩ := q; exact ⟨k, e1, m1, by rw [h1]; rfl, h2, h3⟩
  | bk v1 o1 => rw [e] at q; obtain ⟨k, e1, m1, h1, h2, h3⟩ := q; exact ⟨k, e1, m1, by rw [h1]; rfl, h2, h3⟩
  | ct v1 o1 => rw [e] at q; obtain ⟨k, e1, m1, h1, h2, h3⟩ := q; exact ⟨k, e1, m1, by rw [h1]; rfl, h2, h3⟩
  | rt d o1 => rw [e] at q; obtain ⟨k, e1, m1, w1, v1, h1, h2, h3⟩ := q; exact ⟨k, e1, m1, w1, v1, by rw [h1]; rfl, h2, h3⟩
  | exc c as =>
    rw [e] at q
    obtain ⟨k, e1, m1, ws, v1, o1, h1, h2, h3⟩ := q
    dsimp only
    cases e2 : h c as with
    | none => trivial
    | some d =>
      obtain ⟨w, ex, g1, g2⟩ := hh A m1 c ws as e1 d h2.ln h3 e2
      rw [h1, s_tryR_exc, g1]
      exact ⟨k, e1, _, w, v1, rfl, (h2.app ex).forget, g2 _ _⟩

/-! ### defs -/
def runV (n : Nat) (s : VS) : FD := fun ds => match s (ds.map some ++ List.replicate (n - ds.length) none) (List.replicate n none) with
  | .rt d _ => .ok d
  | .nx _ _ => .ok .non
  | .exc c as => .exc c as
  | _ => .bad
theorem pre_of {b m : Mem} (le : b.length ≤ m.length) (h : ∀ k : Nat, k < b.length → m[k]? = b[k]?) : ∃ r, m = b ++ r := by
  refine ⟨m.drop b.length, List.ext_getElem? fun i => ?_⟩
  by_cases hi : i < b.length
  · rw [List.getElem?_append_left hi, h i hi]
  · rw [List.getElem?_append_right (by omega), List.getElem?_drop]
    congr 1
    omega
theorem rel_start {A : Nat → Prop} {m : Mem} {ws : List W} {ds : List D} (n : Nat) (hb : Bd A m) (h : Vws A m ws ds) (hn : ds.length ≤ n) : Rel ⟨fun _ => false, n⟩ m A (fun _ => False) (List.replicate n none) (ws.map some ++ List.replicate (n - ws.length) none) m (ds.map some ++ List.replicate (n - ds.length) none) (List.replicate n none) := by
  have hl := h.length
  have no : ∀ {i : Nat} {α : Type} {x : α}, (List.replicate n (none : Option α))[i]? = some (some x) → False := fun {i α x} e => by
    rw [List.getElem?_replicate] at e
    split at e <;> cases e
  exact {
    le := Nat.le_refl _
    ext := fun _ _ _ => rfl
    lv := by rw [List.length_append, List.length_append, List.length_map, List.length_map, List.length_replicate, List.length_replicate, hl]; exact Nat.le_refl _
    lo := by rw [List.length_append, List.length_map, List.length_replicate, List.length_replicate]; omega
    lk := by rw [List.length_append, List.length_map, List.length_replicate, List.length_replicate]; omega
    ln := by rw [List.length_append, List.length_map, List.length_replicate]; show _ = n; omega
    vw := fun i d e => by
      by_cases hi : i < ds.length
      · rw [List.getElem?_append_left (by rw [List.length_map]; exact hi), List.getElem?_map] at e
        cases q : ds[i]? with
        | none => rw [q] at e; cases e
        | some d' =>
          rw [q] at e
          cases e
          obtain ⟨w, h1, h2⟩ := h.get q
          refine ⟨w, ?_, h2.mono (Kp.less _ fun k z => z.elim id fun z => ?_)⟩
          · rw [List.getElem?_append_left (by rw [List.length_map, hl]; exact hi), List.getElem?_map, h1]
            rfl
          · obtain ⟨j, ej⟩ := mem_ks.mp z
            exact (no ej).elim
      · rw [List.getElem?_append_right (by rw [List.length_map]; omega)] at e
        rw [List.getElem?_replicate] at e
        split at e <;> cases e
    ow := fun i l e => (no e).elim
    inj := fun i j k e => (no e).elim
    loc := fun i k e => (no e).elim
    kb := fun i k e => (no e).elim
    ab := hb
    pa := fun k z => z.elim }
theorem fq_run {n : Nat} {u : DS} {s : VS} (h : SQ ⟨fun _ => false, n⟩ u s) {A : Nat → Prop} {m : Mem} {ws : List W} {ds : List D} (hb : Bd A m) (hv : Vws A m ws ds) (hn : ds.length ≤ n) : Qo A m (VW A) (runD n u ws m) (runV n s ds) := by
  have g := h m A (fun _ => False) _ _ m _ _ (rel_start n hb hv hn)
  rw [s_run]
  unfold runV
  cases e : s (ds.map some ++ List.replicate (n - ds.length) none) (List.replicate n none) with
  | bad => trivial
  | bk v o => trivial
  | ct v o => trivial
  | nx v o =>
    rw [e] at g
    obtain ⟨k, e1, m1, h1, h2, h3⟩ := g
    obtain ⟨r, rfl⟩ := pre_of h2.le fun k hk => h2.ext k hk fun z => z
    rw [h1]
    exact ⟨.non, r, rfl, .non⟩
  | rt d o =>
    rw [e] at g
    obtain ⟨k, e1, m1, w1, v1, h1, h2, h3⟩ := g
    obtain ⟨r, rfl⟩ := pre_of h2.le fun k hk => h2.ext k hk fun z => z
    rw [h1]
    exact ⟨w1, r, rfl, h3⟩
  | exc c as =>
    rw [e] at g
    obtain ⟨k, e1, m1, ws1, v1, o1, h1, h2, h3⟩ := g
    obtain ⟨r, rfl⟩ := pre_of h2.le fun k hk => h2.ext k hk fun z => z
    rw [h1]
    exact ⟨ws1, r, rfl, h3⟩
/-- a def of k arguments -/
def defV (k n : Nat) (s : VS) : FD := fun ds => if ds.length = k then runV n s ds else .bad
theorem fq_of {k n : Nat} {u : DS} {s : VS} (hk : k ≤ n) (h : SQ ⟨fun _ => false, n⟩ u s) : FQ (runD n u) (defV k n s) := fun A m ws ds hb hv => by
  unfold defV
  by_cases c : ds.length = k
  · rw [if_pos c]
    exact fq_run h hb hv (by omega)
  · rw [if_neg c]
    trivial
end Nw
set_option Elab.async false
set_option linter.all false
set_option maxRecDepth 100000
set_option maxHeartbeats 1000000
namespace Nw
open PySem PySem.Spec PyProof.Rows L2

/-! ### new lists -/
def GF (A : Nat → Prop) (m : Mem) (x : Option (W × Mem)) : Option D → Prop
  | some (.lst l) => ∃ k r ws, x = some (.ref k, m ++ r) ∧ m.length ≤ k ∧ (m ++ r)[k]? = some (.lst ws) ∧ Vws (fun j => A j ∨ j = k) (m ++ r) ws l
  | _ => True
theorem GF.new {A : Nat → Prop} {m : Mem} {ws : List W} {ds : List D} (h : Vws A m ws ds) : GF A m (some (.ref m.length, m ++ [.lst ws])) (some (.lst ds)) :=
  ⟨_, _, ws, rfl, Nat.le_refl _, get_new, h.mono fun k o na e => ⟨fun z => z.elim na fun z => absurd (seqAt_lt e) (by omega), get_app e⟩⟩
theorem GF.lift {A : Nat → Prop} {m : Mem} {x : Option (W × Mem)} {y : Option D} (h : GF A m x y) : Fr A m (lift x) (ofO y) := by
  cases y with
  | none => trivial
  | some d => cases d with
    | lst l =>
      obtain ⟨k, r, ws, e, h1, h2, h3⟩ := h
      subst e
      exact ⟨k, r, ws, rfl, h1, h2, h3⟩
    | _ => trivial
theorem Fr.app {A : Nat → Prop} {m r : Mem} {x : Out W} {y : Ro D} (h : Fr A (m ++ r) x y) : Fr A m x y := by
  cases y with
  | bad => trivial
  | exc c as =>
    obtain ⟨ws, r2, e, h⟩ := h
    exact ⟨ws, r ++ r2, by rw [e, List.append_assoc], by rw [← List.append_assoc]; exact h⟩
  | ok d => cases d with
    | lst l =>
      obtain ⟨k, r2, ws, e, h1, h2, h3⟩ := h
      exact ⟨k, r ++ r2, ws, by rw [e, List.append_assoc], by rw [List.length_append] at h1; omega, by rw [← List.append_assoc]; exact h2, by rw [← List.append_assoc]; exact h3⟩
    | _ => trivial
theorem Fr.bind {α β : Type} {A : Nat → Prop} {m : Mem} {V : Mem → α → β → Prop} {x : Out α} {y : Ro β} {f : α → Mem → Out W} {g : β → Ro D} (h : Qo A m V x y) (k : ∀ r a b, V (m ++ r) a b → Fr A (m ++ r) (f a (m ++ r)) (g b)) : Fr A m (x.bind f) (y.bind g) := by
  cases y with
  | bad => trivial
  | exc c as =>
    obtain ⟨ws, r, e, h⟩ := h
    subst e
    exact ⟨ws, r, rfl, h⟩
  | ok b =>
    obtain ⟨a, r, e, h⟩ := h
    subst e
    exact (k r a b h).app
section
variable {a b : DE} {qa qb : VE} {as : DA} {qs : VA}
theorem qf_cb {f : OpN} {g : PN} (hf : ∀ A m a x, Bd A m → Vws A m a x → GF A m (f a m) (g x)) (h : QA as qs) : QF (dCB f as) (vCB g qs) := fun A env m v o hb R =>
  Fr.bind (h A env m v o hb R) fun r x d hx => (hf A _ x d (hb.app r) hx).lift
theorem qf_op {f : Op2} {g : P2} (hf : ∀ A m a b x y, Bd A m → Vw A m a x → Vw A m b y → GF A m (f a b m) (g x y)) (ha : QE a qa) (hb : QE b qb) : QF (dOp f a b) (vOp g qa qb) := fun A env m v o h R =>
  Fr.bind (ha A env m v o h R) fun r x dx hx => Fr.bind (hb A env _ v o (h.app r) (R.app r)) fun r2 y dy hy => (hf A _ x y dx dy ((h.app r).app r2) (hx.mono (Kp.app _ _ _)) hy).lift
theorem gf_lst (A : Nat → Prop) (m : Mem) (a : List W) (x : List D) (hb : Bd A m) (h : Vws A m a x) : GF A m (lstW a m) (lstV x) := by
  unfold lstW lstV
  rw [h.length]
  split
  · exact GF.new h
  · trivial
theorem gf_list (A : Nat → Prop) (m : Mem) (a : List W) (x : List D) (hb : Bd A m) (h : Vws A m a x) : GF A m (listW a m) (listV x) := by
  cases h with
  | nil => trivial
  | @cons w ws d ds h1 h2 => cases h2 with
    | nil =>
      show GF A m ((seqOf m w).map fun l => (.ref m.length, m ++ [.lst l])) ((seqV d).map .lst)
      cases e : seqV d with
      | none => trivial
      | some l =>
        obtain ⟨us, e1, e2⟩ := seq_vw h1 e
        rw [e1]
        exact GF.new e2
    | cons _ _ => trivial
theorem gf_add (A : Nat → Prop) (m : Mem) (a b : W) (x y : D) (hb : Bd A m) (ha : Vw A m a x) (hy : Vw A m b y) : GF A m (addW a b m) (addV x y) := by
  cases ha with
  | int i => cases hy <;> trivial
  | str i => cases hy with
    | str j =>
      show GF A m _ (if _ then _ else _)
      split <;> trivial
    | _ => trivial
  | @tup ws ds hs => cases hy with
    | @tup us es hu =>
      show GF A m _ (if _ then _ else _)
      split <;> trivial
    | _ => trivial
  | @lst k ws ds _ hk hs => cases hy with
    | @lst j us es _ hj hu =>
      show GF A m (match lstOf m k, lstOf m j with
        | some x, some y => if x.length + y.length ≤ 100000 then some (.ref m.length, m ++ [.lst (x ++ y)]) else none
        | _, _ => none) (if ds.length + es.length ≤ 100000 then _ else _)
      rw [lstOf_lst hk, lstOf_lst hj, ← hs.length, ← hu.length]
      dsimp only
      split
      · exact GF.new (hs.append hu)
      · trivial
    | _ => trivial
  | _ => trivial
theorem gf_mul (A : Nat → Prop) (m : Mem) (a b : W) (x y : D) (hb : Bd A m) (ha : Vw A m a x) (hy : Vw A m b y) : GF A m (mulW a b m) (mulV x y) := by
  cases ha with
  | int i => cases hy with
    | int j =>
      show GF A m _ (if _ then _ else _)
      split <;> trivial
    | _ => trivial
  | @tup ws ds hs => cases hy with
    | int k =>
      show GF A m _ (if _ then _ else _)
      split <;> trivial
    | _ => trivial
  | @lst j ws ds _ hk hs => cases hy with
    | int k =>
      show GF A m (match lstOf m j with
        | some x => if -100000 ≤ k ∧ k ≤ 100000 ∧ x.length * k.toNat ≤ 100000 then some (.ref m.length, m ++ [.lst (List.replicate k.toNat x).flatten]) else none
        | none => none) (if -100000 ≤ k ∧ k ≤ 100000 ∧ ds.length * k.toNat ≤ 100000 then _ else _)
      rw [lstOf_lst hk, ← hs.length]
      dsimp only
      split
      · exact GF.new (hs.rep _)
      · trivial
    | _ => trivial
  | _ => trivial
theorem qf_lst (h : QA as qs) : QF (dCB lstW as) (vCB lstV qs) := qf_cb gf_lst h
theorem qf_list (h : QA as qs) : QF (dCB listW as) (vCB listV qs) := qf_cb gf_list h
theorem qf_add (ha : QE a qa) (hb : QE b qb) : QF (dOp addW a b) (vOp addV qa qb) := qf_op gf_add ha hb
theorem qf_mul (ha : QE a qa) (hb : QE b qb) : QF (dOp mulW a b) (vOp mulV qa qb) := qf_op gf_mul ha hb
theorem qf_lc {it : DI} {qi : VI} {g : DG} {qg : VG} {t : DT} {qt : VT} {e : DE} {qe : VE} {vs : List Nat} (hi : QI it qi) (hg : GQ g qg) (ht : QT t qt) (he : QE e qe) : QF (dLc it g t e vs) (vLc qi qg qt qe vs) := fun A env m v o hb R => by
  have h := lc_ok (vs := vs) hi hg ht he hb R
  cases q : vLc qi qg qt qe vs v o with
  | bad => trivial
  | exc c as => rw [q] at h; exact h
  | ok d =>
    rw [q] at h
    obtain ⟨k, r, ws, l, h1, h2, h3, h4, h5⟩ := h
    subst h2
    exact ⟨k, r, ws, h1, h3, h4, h5⟩
/-- a def that hands back a new list -/
def FF (f : Den) (F : FD) : Prop := ∀ A m ws ds, Bd A m → Vws A m ws ds → Fr A m (f ws m) (F ds)
theorem qf_call {n : Nat} {f : Den} {F : FD} (hf : FF f F) (hs : QA as qs) : QF (dCall n f as) (vCall n F qs) := fun A env m v o h R => Fr.bind (hs A env m v o h R) fun r x dx hx => by
  rw [hx.length]
  by_cases c : dx.length = n
  · rw [if_pos c, if_pos c]
    exact hf A _ x dx (h.app r) hx
  · rw [if_neg c, if_neg c]
    trivial
end

/-! ### defs that change a list that is lent them -/
abbrev FP := List D → Ro (D × List D)
def FL (j : Nat) (f : Den) (F : FP) : Prop := ∀ A m wb wa db da k wl l, Bd A m → A k → m[k]? = some (.lst wl) → Vws A m wl l → Vws A m wb db → Vws A m wa da → db.length = j → match F (db ++ .lst l :: da) with
  | .ok p => ∃ w m' wl', f (wb ++ .ref k :: wa) m = .ok w m' ∧ m.length ≤ m'.length ∧ (∀ i, i < m.length → i ≠ k → m'[i]? = m[i]?) ∧ m'[k]? = some (.lst wl') ∧ Vws A m' wl' p.2 ∧ Vw A m' w p.1
  | _ => True
def penAt (j : Nat) (o : OEnv) (d : D) : Ro (D × List D) := match o[j]? with
  | some (some l) => .ok (d, l)
  | _ => .bad
def runP (n j : Nat) (s : VS) : FP := fun ds => match ds[j]? with
  | some (.lst l) => (match s ((ds.map some ++ List.replicate (n - ds.length) none).set j none) ((List.replicate n none).set j (some l)) with
    | .rt d o => penAt j o d
    | .nx _ o => penAt j o .non
    | _ => .bad)
  | _ => .bad
def defP (k n j : Nat) (s : VS) : FP := fun ds => if ds.length = k then runP n j s ds else .bad
theorem none_get {α : Type} {n i : Nat} {x : α} (e : (List.replicate n (none : Option α))[i]? = some (some x)) : False := by
  rw [List.getElem?_replicate] at e
  split at e <;> cases e
theorem fl_of {k n j : Nat} {u : DS} {s : VS} (hk : k ≤ n) (h : SQ ⟨fun i => i == j, n⟩ u s) : FL j (runD n u) (defP k n j s) := fun A m wb wa db da kk wl l hb ha hkk hl hvb hva hj => by
  unfold defP
  by_cases c : (db ++ .lst l :: da).length = k
  · rw [if_pos c]
    have cl : db.length + (da.length + 1) = k := by rw [← c, List.length_append, List.length_cons]
    have lb := hvb.length
    have la := hva.length
    unfold runP
    have e1 : (db ++ .lst l :: da)[j]? = some (.lst l) := by rw [← hj, List.getElem?_append_right (Nat.le_refl _), Nat.sub_self]; rfl
    rw [e1]
    dsimp only
    have R : Rel ⟨fun i => i == j, n⟩ m A (fun z => z = kk) ((List.replicate n none).set j (some kk)) ((wb ++ W.ref kk :: wa).map some ++ List.replicate (n - (wb ++ W.ref kk :: wa).length) none) m (((db ++ D.lst l :: da).map some ++ List.replicate (n - (db ++ D.lst l :: da).length) none).set j none) ((List.replicate n none).set j (some l)) := by
      have jn : j < n := by omega
      have one : ∀ {i z : Nat}, ((List.replicate n (none : Option Nat)).set j (some kk))[i]? = some (some z) → i = j ∧ z = kk := fun {i z} e => by
        by_cases q : j = i
        · subst q
          rw [List.getElem?_set_self (by rw [List.length_replicate]; exact jn)] at e
          cases e
          exact ⟨rfl, rfl⟩
        · rw [List.getElem?_set_ne q] at e
          exact (none_get e).elim
      have av : ∀ z, Av A ((List.replicate n none).set j (some kk)) z → A z := fun z h => h.elim id fun h => by
        obtain ⟨i, e⟩ := mem_ks.mp h
        rw [(one e).2]
        exact ha
      have len : ((wb ++ W.ref kk :: wa).map some ++ List.replicate (n - (wb ++ W.ref kk :: wa).length) none).length = n := by
        simp only [List.length_append, List.length_map, List.length_replicate, List.length_cons]
        omega
      have gw : ∀ i : Nat, ((wb ++ W.ref kk :: wa).map some ++ List.replicate (n - (wb ++ W.ref kk :: wa).length) none)[i]? = if i < k then ((wb ++ W.ref kk :: wa)[i]?).map some else if i < n then some none else none := fun i => by
        by_cases q : i < k
        · rw [if_pos q, List.getElem?_append_left (by rw [List.length_map, List.length_append, List.length_cons]; omega), List.getElem?_map]
        · rw [if_neg q, List.getElem?_append_right (by rw [List.length_map, List.length_append, List.length_cons]; omega), List.getElem?_replicate, List.length_map, List.length_append, List.length_cons]
          by_cases q2 : i < n
          · rw [if_pos q2, if_pos (by omega)]
          · rw [if_neg q2, if_neg (by omega)]
      exact {
        le := Nat.le_refl _
        ext := fun _ _ _ => rfl
        lv := by
          rw [len]
          simp only [List.length_set, List.length_append, List.length_map, List.length_replicate, List.length_cons]
          omega
        lo := by rw [len, List.length_set, List.length_replicate]; exact Nat.le_refl _
        lk := by rw [len, List.length_set, List.length_replicate]
        ln := len
        vw := fun i d e => by
          obtain ⟨ij, e⟩ := set_none_get e
          by_cases q : i < k
          · rw [List.getElem?_append_left (by rw [List.length_map, c]; exact q), List.getElem?_map] at e
            rw [gw, if_pos q]
            have : (db ++ D.lst l :: da)[i]? = some d := by
              cases z : (db ++ D.lst l :: da)[i]? with
              | none => rw [z] at e; cases e
              | some d' => rw [z] at e; cases e; rfl
            by_cases ib : i < db.length
            · rw [List.getElem?_append_left ib] at this
              obtain ⟨w, h1, h2⟩ := hvb.get this
              exact ⟨w, by rw [List.getElem?_append_left (by omega), h1]; rfl, h2.mono (Kp.less _ av)⟩
            · obtain ⟨i', rfl⟩ : ∃ i', i = db.length + 1 + i' := ⟨i - db.length - 1, by omega⟩
              rw [List.getElem?_append_right (by omega), show db.length + 1 + i' - db.length = i' + 1 by omega, List.getElem?_cons_succ] at this
              obtain ⟨w, h1, h2⟩ := hva.get this
              refine ⟨w, ?_, h2.mono (Kp.less _ av)⟩
              rw [List.getElem?_append_right (by omega), show db.length + 1 + i' - wb.length = i' + 1 by omega, List.getElem?_cons_succ, h1]
              rfl
          · rw [List.getElem?_append_right (by rw [List.length_map, c]; omega)] at e
            exact (none_get e).elim
        ow := fun i l' e => by
          by_cases q : j = i
          · subst q
            rw [List.getElem?_set_self (by rw [List.length_replicate]; exact jn)] at e
            cases e
            refine ⟨kk, wl, by rw [List.getElem?_set_self (by rw [List.length_replicate]; exact jn)], ?_, hkk, hl.mono (Kp.less _ av)⟩
            rw [gw, if_pos (by omega), List.getElem?_append_right (by omega), show j - wb.length = 0 by omega]
            rfl
          · rw [List.getElem?_set_ne q] at e
            exact (none_get e).elim
        inj := fun i i' z h1 h2 => by rw [(one h1).1, (one h2).1]
        loc := fun i z h1 => by
          rw [(one h1).1, (one h1).2, if_pos (by simp)]
        kb := fun i z h1 => by
          rw [(one h1).2]
          exact seqAt_lt hkk
        ab := hb
        pa := fun z h => by rw [h]; exact ha }
    have g := h m A (fun z => z = kk) _ _ m _ _ R
    have fin : ∀ (ks' : List (Option Nat)) env' m1 v' o' d (w : W), Rel ⟨fun i => i == j, n⟩ m A (fun z => z = kk) ks' env' m1 v' o' → Vw A m1 w d → runD n u (wb ++ .ref kk :: wa) m = .ok w m1 → match penAt j o' d with
        | .ok p => ∃ w m' wl', runD n u (wb ++ .ref kk :: wa) m = .ok w m' ∧ m.length ≤ m'.length ∧ (∀ i, i < m.length → i ≠ kk → m'[i]? = m[i]?) ∧ m'[kk]? = some (.lst wl') ∧ Vws A m' wl' p.2 ∧ Vw A m' w p.1
        | _ => True := fun ks' env' m1 v' o' d w R' hv hr => by
      unfold penAt
      cases q : o'[j]? with
      | none => trivial
      | some x => cases x with
        | none => trivial
        | some l' =>
          obtain ⟨k', ws', h1, h2, h3, h4⟩ := R'.ow j l' q
          have := R'.loc j k' h1
          rw [if_pos (by simp)] at this
          subst this
          exact ⟨w, m1, ws', hr, R'.le, fun i hi hn => R'.ext i hi hn, h3, h4.mono (Kp.less _ fun _ z => .inl z), hv⟩
    generalize hs : s _ _ = y at g ⊢
    cases y with
    | bad => trivial
    | bk v o => trivial
    | ct v o => trivial
    | exc c as => trivial
    | nx v o =>
      obtain ⟨k2, e1, m1, h1, h2, h3⟩ := g
      exact fin k2 e1 m1 v o .non .non h2 .non (by rw [s_run, h1]; rfl)
    | rt d o =>
      obtain ⟨k2, e1, m1, w1, v1, h1, h2, h3⟩ := g
      exact fin k2 e1 m1 v1 o d w1 h2 h3 (by rw [s_run, h1]; rfl)
  · rw [if_neg c]
    trivial
/-- arguments, a list of one's own among them -/
abbrev VLP := VEnv → OEnv → Ro ((List D × List D) × OEnv)
def JP (i : Nat) (e : DA) (q : VLP) : Prop := ∀ pens b A P ks env m v o, Rel pens b A P ks env m v o → match q v o with
  | .ok p => ∃ wb wa k m', ks[i]? = some (some k) ∧ e env m = .ok (wb ++ .ref k :: wa) m' ∧ Rel pens b A P ks env m' v p.2 ∧ Kp (Av A ks) m (Av A ks) m' ∧ Vws (Av A ks) m' wb p.1.1 ∧ Vws (Av A ks) m' wa p.1.2
  | _ => True
def lpHere (i : Nat) (a : VLA) : VLP := fun v o => match o[i]? with
  | some (some _) => (a v o).bind fun p => .ok (([], p.1), p.2)
  | _ => .bad
def lpCons (a : VL) (q : VLP) : VLP := fun v o => (a v o).bind fun p => (q v p.2).bind fun p2 => .ok ((p.1 :: p2.1.1, p2.1.2), p2.2)
theorem lp_here {i : Nat} {as : DA} {ls : VLA} (h : JLA as ls) : JP i (dCons (dVar i) as) (lpHere i ls) := fun pens b A P ks env m v o R => by
  unfold lpHere
  cases e : o[i]? with
  | none => trivial
  | some x => cases x with
    | none => trivial
    | some l =>
      obtain ⟨k, ws, h1, h2, h3, h4⟩ := R.ow i l e
      have g := h pens b A P ks env m v o R
      dsimp only
      cases q : ls v o with
      | bad => trivial
      | exc _ _ => trivial
      | ok p =>
        rw [q] at g
        obtain ⟨us, m1, e1, R1, kp, hu⟩ := g
        refine ⟨[], us, k, m1, h1, ?_, R1, kp, .nil, hu⟩
        rw [s_cons, s_var, h2]
        simp only [s_varR, s_bind_ok]
        rw [e1]
        rfl
theorem lp_cons {i : Nat} {a : DE} {la : VL} {as : DA} {q : VLP} (ha : JL a la) (h : JP i as q) : JP i (dCons a as) (lpCons la q) := fun pens b A P ks env m v o R => by
  have g := ha pens b A P ks env m v o R
  unfold lpCons
  cases e : la v o with
  | bad => trivial
  | exc _ _ => trivial
  | ok p =>
    rw [e] at g
    obtain ⟨x, m1, e1, R1, kp, hx⟩ := g
    have g2 := h pens b A P ks env m1 v p.2 R1
    show (match (q v p.2).bind fun p2 => .ok ((p.1 :: p2.1.1, p2.1.2), p2.2) with
      | .ok p => _
      | _ => True)
    cases e2 : q v p.2 with
    | bad => trivial
    | exc _ _ => trivial
    | ok p2 =>
      rw [e2] at g2
      obtain ⟨wb, wa, k, m2, h1, h2, R2, kp2, hb2, ha2⟩ := g2
      refine ⟨x :: wb, wa, k, m2, h1, ?_, R2, kp.trans kp2, .cons (Vw.mono kp2 hx) hb2, ha2⟩
      rw [s_cons, e1]
      simp only [s_bind_ok]
      rw [h2]
      rfl
def lCallP (n i j : Nat) (F : FP) (q : VLP) : VL := fun v o => (q v o).bind fun p => match p.2[i]? with
  | some (some l) => if p.1.1.length + (p.1.2.length + 1) = n ∧ p.1.1.length = j then (F (p.1.1 ++ .lst l :: p.1.2)).bind fun r => .ok (r.1, p.2.set i (some r.2)) else .bad
  | _ => .bad
theorem l_callP {n i j : Nat} {f : Den} {F : FP} {as : DA} {q : VLP} (hf : FL j f F) (h : JP i as q) : JL (dCall n f as) (lCallP n i j F q) := fun pens b A P ks env m v o R => by
  have g := h pens b A P ks env m v o R
  unfold lCallP
  rw [s_call]
  cases e : q v o with
  | bad => trivial
  | exc _ _ => trivial
  | ok p =>
    rw [e] at g
    obtain ⟨wb, wa, k, m1, h1, h2, R1, kp, hb1, ha1⟩ := g
    rw [h2]
    simp only [s_bind_ok]
    show Lo XW pens b A P ks env v m _ (match p.2[i]? with
      | some (some l) => if p.1.1.length + (p.1.2.length + 1) = n ∧ p.1.1.length = j then (F (p.1.1 ++ .lst l :: p.1.2)).bind fun r => .ok (r.1, p.2.set i (some r.2)) else .bad
      | _ => .bad)
    cases e2 : p.2[i]? with
    | none => trivial
    | some x => cases x with
      | none => trivial
      | some l =>
        dsimp only
        by_cases c : p.1.1.length + (p.1.2.length + 1) = n ∧ p.1.1.length = j
        · rw [if_pos c, if_pos (by rw [List.length_append, List.length_cons, hb1.length, ha1.length]; exact c.1)]
          obtain ⟨k', ws, g1, g2, g3, g4⟩ := R1.ow i l e2
          rw [h1] at g1
          cases g1
          have z := hf (Av A ks) m1 wb wa p.1.1 p.1.2 k ws l R1.bd (.inr (mem_ks.mpr ⟨i, h1⟩)) g3 g4 hb1 ha1 c.2
          cases e3 : F (p.1.1 ++ .lst l :: p.1.2) with
          | bad => trivial
          | exc _ _ => trivial
          | ok r =>
            rw [e3] at z
            obtain ⟨w, m2, wl', z1, z2, z3, z4, z5, z6⟩ := z
            have M := R1.mut e2 h1 z2 z3 z4 z5
            exact ⟨w, m2, z1, M.1, kp.trans M.2, z6⟩
        · rw [if_neg c]
          trivial
end Nw
set_option Elab.async false
set_option linter.all false
set_option maxRecDepth 100000
set_option maxHeartbeats 1000000
namespace Nw
open PySem PySem.Spec PyProof.Rows L2

/-! ### comprehensions that change lists of one's own -/
theorem wipeE_get {env : Env} {i : Nat} {w : W} : ∀ {vs : List Nat}, (wipeE env vs)[i]? = some (some w) → env[i]? = some (some w)
  | [], e => e
  | j :: vs, e => wipeE_get (vs := vs) (set_none_get (show ((wipeE env vs).set j none)[i]? = some (some w) from e)).2
theorem wipeV_get {v : VEnv} {i : Nat} {d : D} : ∀ {vs : List Nat}, (wipeV v vs)[i]? = some (some d) → v[i]? = some (some d) ∧ i ∉ vs
  | [], e => ⟨e, by simp⟩
  | j :: vs, e => by
    obtain ⟨h1, h2⟩ := set_none_get (show ((wipeV v vs).set j none)[i]? = some (some d) from e)
    obtain ⟨h3, h4⟩ := wipeV_get (vs := vs) h2
    exact ⟨h3, fun z => (List.mem_cons.mp z).elim (fun z => h1 z.symm) h4⟩
theorem wipeO_get {o : OEnv} {i : Nat} {l : List D} : ∀ {vs : List Nat}, (wipeO o vs)[i]? = some (some l) → o[i]? = some (some l) ∧ i ∉ vs
  | [], e => ⟨e, by simp⟩
  | j :: vs, e => by
    obtain ⟨h1, h2⟩ := set_none_get (show ((wipeO o vs).set j none)[i]? = some (some l) from e)
    obtain ⟨h3, h4⟩ := wipeO_get (vs := vs) h2
    exact ⟨h3, fun z => (List.mem_cons.mp z).elim (fun z => h1 z.symm) h4⟩
theorem wipeE_out {env : Env} {i : Nat} : ∀ {vs : List Nat}, i ∉ vs → (wipeE env vs)[i]? = env[i]?
  | [], _ => rfl
  | j :: vs, h => by
    show ((wipeE env vs).set j none)[i]? = _
    rw [List.getElem?_set_ne (fun z => h (by rw [z]; exact List.mem_cons_self))]
    exact wipeE_out fun z => h (List.mem_cons_of_mem _ z)
theorem wipeE_len (env : Env) : ∀ vs : List Nat, (wipeE env vs).length = env.length
  | [] => rfl
  | j :: vs => by
    show ((wipeE env vs).set j none).length = _
    rw [List.length_set, wipeE_len env vs]
theorem wipeV_len (v : VEnv) : ∀ vs : List Nat, (wipeV v vs).length = v.length
  | [] => rfl
  | j :: vs => by
    show ((wipeV v vs).set j none).length = _
    rw [List.length_set, wipeV_len v vs]
theorem wipeO_len (v : OEnv) : ∀ vs : List Nat, (wipeO v vs).length = v.length
  | [] => rfl
  | j :: vs => by
    show ((wipeO v vs).set j none).length = _
    rw [List.length_set, wipeO_len v vs]
section
variable {pens : Pn} {b : Mem} {A P : Nat → Prop} {ks : List (Option Nat)} {env : Env} {m : Mem} {v : VEnv} {o : OEnv}
/-- lists of one's own are changed, and new things made -/
theorem Rel.back (R : Rel pens b A P ks env m v o) {m' : Mem} {o' : OEnv} (hle : m.length ≤ m'.length) (hext : ∀ j, j < m.length → some j ∉ ks → m'[j]? = m[j]?) (hlo : o'.length ≤ env.length)
    (how : ∀ (i : Nat) (l : List D), o'[i]? = some (some l) → ∃ k ws, ks[i]? = some (some k) ∧ env[i]? = some (some (.ref k)) ∧ m'[k]? = some (.lst ws) ∧ Vws (Av A ks) m' ws l) :
    Rel pens b A P ks env m' v o' ∧ Kp (Av A ks) m (Av A ks) m' := by
  have kp : Kp (Av A ks) m (Av A ks) m' := fun j ob na e => ⟨na, by
    rw [hext j (seqAt_lt e) fun z => na (.inr z)]
    exact e⟩
  exact ⟨{
    le := Nat.le_trans R.le hle
    ext := fun j hj hp => by
      rw [hext j (Nat.lt_of_lt_of_le hj R.le) fun z => ?_]
      · exact R.ext j hj hp
      · obtain ⟨i, e⟩ := mem_ks.mp z
        have := R.loc i j e
        by_cases c : pens.p i = true
        · rw [if_pos c] at this
          exact hp this
        · rw [if_neg c] at this
          omega
    lv := R.lv
    lo := hlo
    lk := R.lk
    ln := R.ln
    vw := fun j d e => let ⟨w, h1, h2⟩ := R.vw j d e; ⟨w, h1, h2.mono kp⟩
    ow := how
    inj := R.inj
    loc := R.loc
    kb := fun i' k' h => Nat.lt_of_lt_of_le (R.kb i' k' h) hle
    ab := R.ab
    pa := R.pa }, kp⟩
/-- the slots within a comprehension, from where the memory stands -/
theorem Rel.inner {n : Nat} (hn : env.length = n) (R : Rel pens b A P ks env m v o) (acc : List W) (vs : List Nat) : Rel ⟨fun _ => true, n⟩ (m ++ [.lst acc]) (fun k => Av A ks k ∨ k = m.length) (fun k => some k ∈ ks) ks (wipeE env vs) (m ++ [.lst acc]) (wipeV v vs) (wipeO o vs) := by
  have av : ∀ k, Av (fun k => Av A ks k ∨ k = m.length) ks k → Av A ks k ∨ k = m.length := fun k h => h.elim id fun h => .inl (.inr h)
  have kp : Kp (Av A ks) m (Av (fun k => Av A ks k ∨ k = m.length) ks) (m ++ [.lst acc]) := fun j ob na e => ⟨fun z => (av j z).elim na fun z => absurd (seqAt_lt e) (by omega), get_app e⟩
  exact {
    le := Nat.le_refl _
    ext := fun _ _ _ => rfl
    lv := by rw [wipeE_len, wipeV_len]; exact R.lv
    lo := by rw [wipeE_len, wipeO_len]; exact R.lo
    lk := by rw [wipeE_len]; exact R.lk
    ln := by rw [wipeE_len]; exact hn
    vw := fun i d e => by
      obtain ⟨e, n⟩ := wipeV_get e
      obtain ⟨w, h1, h2⟩ := R.vw i d e
      exact ⟨w, by rw [wipeE_out n]; exact h1, h2.mono kp⟩
    ow := fun i l e => by
      obtain ⟨e, n⟩ := wipeO_get e
      obtain ⟨k, ws, h1, h2, h3, h4⟩ := R.ow i l e
      exact ⟨k, ws, h1, by rw [wipeE_out n]; exact h2, get_app h3, h4.mono kp⟩
    inj := R.inj
    loc := fun i k e => by rw [if_pos rfl]; exact mem_ks.mpr ⟨i, e⟩
    kb := fun i k e => by rw [List.length_append]; exact Nat.lt_of_lt_of_le (R.kb i k e) (Nat.le_add_right _ _)
    ab := fun k h => by
      rw [List.length_append, List.length_singleton]
      rcases h with h | h
      · have := R.bd k h; omega
      · omega
    pa := fun k h => .inl (.inr h) }
/-- all that stands is a new ground -/
theorem Rel.ground {n : Nat} {b' : Mem} (R : Rel ⟨fun _ => true, n⟩ b' A P ks env m v o) : Rel ⟨fun _ => true, n⟩ m A P ks env m v o := { R with
  le := Nat.le_refl _
  ext := fun _ _ _ => rfl
  ab := fun k h => Nat.lt_of_lt_of_le (R.ab k h) R.le }
/-- a list that is nobody's is written -/
theorem Rel.put {n : Nat} (R : Rel ⟨fun _ => true, n⟩ m A P ks env m v o) {k : Nat} (hk : Av A ks k) (nk : some k ∉ ks) (ob : O) : Rel ⟨fun _ => true, n⟩ (m.set k ob) A P ks env (m.set k ob) v o := by
  have kp : Kp (Av A ks) m (Av A ks) (m.set k ob) := Kp.set _ _ hk
  exact { R with
    le := Nat.le_refl _
    ext := fun _ _ _ => rfl
    vw := fun i d e => let ⟨w, h1, h2⟩ := R.vw i d e; ⟨w, h1, h2.mono kp⟩
    ow := fun i l e => by
      obtain ⟨k', ws, h1, h2, h3, h4⟩ := R.ow i l e
      refine ⟨k', ws, h1, h2, ?_, h4.mono kp⟩
      rw [List.getElem?_set_ne]
      · exact h3
      · intro z
        subst z
        exact nk (mem_ks.mpr ⟨i, h1⟩)
    loc := R.loc
    kb := fun i k' e => by rw [List.length_set]; exact R.kb i k' e
    ab := fun k h => by rw [List.length_set]; exact R.ab k h }
end
def lcL' (g : VG) (t : VLT) (e : VL) (v : VEnv) : List D → OEnv → Ro (List D × OEnv)
  | [], o => .ok ([], o)
  | d :: ds, o => (g d v o).only.bind fun p => (t p.1 p.2).only.bind fun c => if c.1 = true then (e p.1 c.2).only.bind fun y => (lcL' g t e v ds y.2).bind fun l => .ok (y.1 :: l.1, l.2) else lcL' g t e v ds c.2
def lLc (it : VI) (g : VG) (t : VLT) (e : VL) (vs : List Nat) : VL := fun v o => (it v []).only.bind fun items => if items.length < 100000 then (lcL' g t e (wipeV v vs) items (wipeO o vs)).only.bind fun p => .ok (.lst p.1, p.2) else .bad
theorem only_ok {α : Type} {y : Ro α} {a : α} (h : y.only = .ok a) : y = .ok a := by
  cases y with
  | ok b => cases h; rfl
  | _ => cases h
theorem Sets.len {A : Nat → Prop} {m : Mem} {e1 e2 : Env} {v1 v2 : VEnv} {o1 o2 : OEnv} (h : Sets A m e1 v1 o1 e2 v2 o2) : e2.length = e1.length := by
  induction h with
  | refl => rfl
  | step i _ _ ih => rw [ih, List.length_set]
theorem Rel.setsE {pens : Pn} {b : Mem} {A P : Nat → Prop} {env : Env} {m : Mem} {v : VEnv} {o : OEnv} {env2 : Env} {v2 : VEnv} {o2 : OEnv} {A0 : Nat → Prop} (s : Sets A0 m env v o env2 v2 o2) : ∀ {ks : List (Option Nat)}, (∀ k, Av A ks k → A0 k) → Rel pens b A P ks env m v o →
    ∃ ks2, Rel pens b A P ks2 env2 m v2 o2 ∧ (∀ k, Av A ks2 k → Av A ks k) ∧ (∀ (i k : Nat), ks2[i]? = some (some k) → ks[i]? = some (some k) ∧ env2[i]? = env[i]?) ∧ o2.length = o.length := by
  induction s with
  | refl => exact fun _ R => ⟨_, R, fun _ h => h, fun i k e => ⟨e, rfl⟩, rfl⟩
  | step i h _ ih =>
    intro ks hA R
    obtain ⟨ks2, R2, hk, he, hl⟩ := ih (ks := ks.set i none) (fun k z => hA k z.less) (R.setV (h.mono (Kp.less _ hA)) i)
    refine ⟨ks2, R2, fun k z => (hk k z).less, fun j k e => ?_, by rw [hl, List.length_set]⟩
    obtain ⟨h1, h2⟩ := he j k e
    obtain ⟨h3, h4⟩ := set_none_get h1
    exact ⟨h4, by rw [h2, List.getElem?_set_ne h3]⟩
theorem lcl_run {n : Nat} {it : Src} {g : DG} {qg : VG} {t : DT} {lt : VLT} {e : DE} {le : VL} (hg : GQ g qg) (ht : JLT t lt) (he : JL e le) {A : Nat → Prop} {ks : List (Option Nat)} {m0 : Mem} {env0 : Env} {v : VEnv} {items : List D} {kk : Nat} (hkk : m0.length ≤ kk) (hks : ∀ k, some k ∈ ks → k < m0.length) (hA : ∀ k, A k → k < m0.length)
    (hs : SrcOk (Av A ks) m0 it items) (hl : items.length < 100000) :
    ∀ (d i fuel : Nat) (acc : List W) (accd : List D) (m : Mem) (o : OEnv) (l : List D × OEnv), i + d = items.length → d < fuel → Kp (Av A ks) m0 (Av (fun k => Av A ks k ∨ k = kk) ks) m → m[kk]? = some (.lst acc) →
      Rel ⟨fun _ => true, n⟩ m (fun k => Av A ks k ∨ k = kk) (fun k => some k ∈ ks) ks env0 m v o → Vws (Av (fun k => Av A ks k ∨ k = kk) ks) m acc accd → accd.length ≤ i → lcL' qg lt le v (items.drop i) o = .ok l →
      ∃ acc' m', lcL it g t e env0 kk fuel i m = .ok () m' ∧ m'[kk]? = some (.lst acc') ∧ Rel ⟨fun _ => true, n⟩ m' (fun k => Av A ks k ∨ k = kk) (fun k => some k ∈ ks) ks env0 m' v l.2 ∧ Vws (Av (fun k => Av A ks k ∨ k = kk) ks) m' acc' (accd ++ l.1) ∧ m.length ≤ m'.length ∧ ∀ j, j < m.length → j ≠ kk → some j ∉ ks → m'[j]? = m[j]?
  | d, i, 0, _, _, _, _, _, _, hf, _, _, _, _, _, _ => absurd hf (Nat.not_lt_zero _)
  | 0, i, fuel + 1, acc, accd, m, o, l, hi, _, kp, hm, R, ha, _, hv => by
    have hi : i = items.length := hi
    subst hi
    rw [List.drop_length] at hv
    cases hv
    obtain ⟨ow, e1, e2⟩ := hs.2 _ _ kp items.length (Nat.le_refl _)
    rw [List.getElem?_eq_none (Nat.le_refl _)] at e2
    cases (show ow = none from e2)
    refine ⟨acc, m, ?_, hm, R, by rw [List.append_nil]; exact ha, Nat.le_refl _, fun _ _ _ _ => rfl⟩
    unfold lcL
    rw [e1]
  | d + 1, i, fuel + 1, acc, accd, m, o, l, hi, hf, kp, hm, R, ha, hai, hv => by
    have hlt : i < items.length := by omega
    have nkk : some kk ∉ ks := fun z => absurd (hks kk z) (by omega)
    obtain ⟨ow, e1, e2⟩ := hs.2 _ _ kp i (Nat.le_of_lt hlt)
    rw [List.getElem?_eq_getElem hlt] at e2
    obtain ⟨w, rfl, hw⟩ := e2
    rw [List.drop_eq_getElem_cons hlt] at hv
    obtain ⟨p, hp, hv⟩ := bind_only_ok hv
    obtain ⟨c, hc, hv⟩ := bind_only_ok hv
    have hp := only_ok hp
    have hc := only_ok hc
    have g1 := hg (Av (fun k => Av A ks k ∨ k = kk) ks) m w items[i] env0 v o hw
    rw [hp] at g1
    obtain ⟨env2, g2, g3⟩ := g1
    obtain ⟨ks2, R2, hk2, he2, hlo2⟩ := R.setsE g3 (fun k z => z)
    have T := ht _ _ _ _ _ _ _ _ _ R2
    rw [hc] at T
    obtain ⟨c', m3, t1, R3, kp3, t2⟩ := T
    -- back to the slots outside
    have back : ∀ {m3 : Mem} {o3 : OEnv}, Rel ⟨fun _ => true, n⟩ m (fun k => Av A ks k ∨ k = kk) (fun k => some k ∈ ks) ks2 env2 m3 p.1 o3 → Rel ⟨fun _ => true, n⟩ m (fun k => Av A ks k ∨ k = kk) (fun k => some k ∈ ks) ks env0 m3 v o3 ∧ Kp (Av (fun k => Av A ks k ∨ k = kk) ks) m (Av (fun k => Av A ks k ∨ k = kk) ks) m3 := fun {m3 o3} R3 => by
      have hl3 : env2.length = env0.length := g3.len
      refine R.back R3.le (fun j hj hn => R3.ext j hj hn) (by rw [← hl3]; exact R3.lo) fun i' l' e => ?_
      obtain ⟨k, ws, h1, h2, h3, h4⟩ := R3.ow i' l' e
      obtain ⟨h5, h6⟩ := he2 i' k h1
      exact ⟨k, ws, h5, by rw [← h6]; exact h2, h3, h4.mono (Kp.less _ fun z hz => hz.elim .inl fun hz => .inl (.inl (.inr hz)))⟩
    have R3 : Rel ⟨fun _ => true, n⟩ m (fun k => Av A ks k ∨ k = kk) (fun k => some k ∈ ks) ks2 env2 m3 p.1 c.2 := R3
    cases (show c' = c.1 from t2)
    unfold lcL
    rw [e1]
    dsimp only
    rw [g2]
    dsimp only
    rw [t1]
    obtain ⟨B3, K3⟩ := back R3
    have hm3 : m3[kk]? = some (.lst acc) := by rw [R3.ext kk (seqAt_lt hm) nkk]; exact hm
    cases hcc : c.1 with
    | false =>
      rw [hcc, if_neg (by decide)] at hv
      obtain ⟨acc', m', f1, f2, f3, f4, f5, f6⟩ := lcl_run hg ht he hkk hks hA hs hl d (i + 1) fuel acc accd m3 c.2 l (by omega) (by omega) (kp.trans K3) hm3 B3.ground (ha.mono K3) (by omega) hv
      exact ⟨acc', m', f1, f2, f3, f4, Nat.le_trans R3.le f5, fun j hj h1 h2 => by rw [f6 j (Nat.lt_of_lt_of_le hj R3.le) h1 h2, R3.ext j hj h2]⟩
    | true =>
      rw [hcc, if_pos rfl] at hv
      obtain ⟨y, hy, hv⟩ := bind_only_ok hv
      have hy := only_ok hy
      obtain ⟨l', hl', hv⟩ := bind_ok hv
      cases hv
      have E := he _ _ _ _ _ _ _ _ _ R3
      rw [hy] at E
      obtain ⟨wy, m4, y1, R4, kp4, y2⟩ := E
      have R4 : Rel ⟨fun _ => true, n⟩ m (fun k => Av A ks k ∨ k = kk) (fun k => some k ∈ ks) ks2 env2 m4 p.1 y.2 := R4
      have y2 : Vw (Av (fun k => Av A ks k ∨ k = kk) ks2) m4 wy y.1 := y2
      dsimp only
      rw [y1]
      obtain ⟨B4, K4⟩ := back R4
      have hm4 : m4[kk]? = some (.lst acc) := by rw [R4.ext kk (seqAt_lt hm) nkk]; exact hm
      dsimp only
      rw [lstOf_lst hm4]
      dsimp only
      have ha4 := ha.mono K4
      rw [if_pos (by rw [ha.length]; omega)]
      have ak : Av (fun k => Av A ks k ∨ k = kk) ks kk := .inl (.inr rfl)
      have P5 := B4.ground.put ak nkk (.lst (acc ++ [wy]))
      have K5 : Kp (Av (fun k => Av A ks k ∨ k = kk) ks) m4 (Av (fun k => Av A ks k ∨ k = kk) ks) (m4.set kk (.lst (acc ++ [wy]))) := Kp.set _ _ ak
      have y5 : Vw (Av (fun k => Av A ks k ∨ k = kk) ks) m4 wy y.1 := y2.mono (Kp.less _ fun z hz => hz.elim .inl fun hz => .inl (.inl (.inr hz)))
      obtain ⟨acc', m', f1, f2, f3, f4, f5, f6⟩ := lcl_run hg ht he hkk hks hA hs hl d (i + 1) fuel (acc ++ [wy]) (accd ++ [y.1]) (m4.set kk (.lst (acc ++ [wy]))) y.2 l' (by omega) (by omega) ((kp.trans K4).trans K5) (by rw [List.getElem?_set_self (seqAt_lt hm4)]) P5 ((ha4.append (.cons y5 .nil)).mono K5) (by rw [List.length_append, List.length_singleton]; omega) hl'
      rw [List.length_set] at f5 f6
      refine ⟨acc', m', f1, f2, f3, by rw [List.append_assoc] at f4; exact f4, Nat.le_trans R4.le f5, fun j hj h1 h2 => ?_⟩
      rw [f6 j (Nat.lt_of_lt_of_le hj R4.le) h1 h2, List.getElem?_set_ne (fun z => h1 z.symm), R4.ext j hj h2]
theorem l_lc {it : DI} {qi : VI} {g : DG} {qg : VG} {t : DT} {lt : VLT} {e : DE} {le : VL} {vs : List Nat} (hi : QI it qi) (hg : GQ g qg) (ht : JLT t lt) (he : JL e le) : JL (dLc it g t e vs) (lLc qi qg lt le vs) := fun pens b A P ks env m v o R => by
  have h1 := hi (Av A ks) env m v [] R.bd R.strict
  unfold lLc dLc
  cases q : qi v [] with
  | bad => trivial
  | exc c as => trivial
  | ok items =>
    rw [q] at h1
    obtain ⟨src, r, e1, e2⟩ := h1
    rw [e1]
    simp only [s_bind_ok]
    show Lo XW pens b A P ks env v m _ (if items.length < 100000 then (lcL' qg lt le (wipeV v vs) items (wipeO o vs)).only.bind fun p => .ok (.lst p.1, p.2) else .bad)
    by_cases c : items.length < 100000
    · rw [if_pos c]
      cases q2 : lcL' qg lt le (wipeV v vs) items (wipeO o vs) with
      | bad => trivial
      | exc c as => trivial
      | ok l =>
        have R1 := R.app r
        have hks : ∀ k, some k ∈ ks → k < (m ++ r).length := fun k z => let ⟨i, e⟩ := mem_ks.mp z; R1.kb i k e
        have I := R1.inner R1.ln [] vs
        have kp : Kp (Av A ks) (m ++ r) (Av (fun k => Av A ks k ∨ k = (m ++ r).length) ks) (m ++ r ++ [.lst []]) := fun j ob na e => ⟨fun z => z.elim (fun z => z.elim na fun z => absurd (seqAt_lt e) (by omega)) fun z => na (.inr z), get_app e⟩
        obtain ⟨acc', m', f1, f2, f3, f4, f5, f6⟩ := lcl_run hg ht he (Nat.le_refl _) hks (fun k z => R1.bdA k z) e2 c items.length 0 (turnsS src (m ++ r) + 1) [] [] (m ++ r ++ [.lst []]) (wipeO o vs) l (by omega) (by rw [e2.1]; omega) kp get_new I .nil (Nat.le_refl _) q2
        rw [f1]
        simp only [s_bind_ok]
        have hle : (m ++ r).length ≤ m'.length := Nat.le_trans (by rw [List.length_append (as := m ++ r)]; exact Nat.le_add_right _ _) f5
        have B := R1.back (m' := m') (o' := l.2) hle (fun j hj hn => by
          rw [f6 j (by rw [List.length_append]; omega) (by omega) hn, List.getElem?_append_left hj]) (by have := f3.lo; rw [wipeE_len] at this; exact this) fun i l' e => by
          obtain ⟨k, ws, g1, g2, g3, g4⟩ := f3.ow i l' e
          exact ⟨k, ws, g1, wipeE_get g2, g3, g4.mono (Kp.less _ fun z hz => .inl (.inl hz))⟩
        refine ⟨_, m', rfl, B.1, (Kp.app _ _ r).trans B.2, .lst (fun z => absurd (R1.bd _ z) (Nat.lt_irrefl _)) f2 ?_⟩
        have f4 : Vws _ m' acc' l.1 := f4
        exact f4.mono (Kp.less _ fun z hz => .inl (.inl hz))
    · rw [if_neg c]
      trivial
end Nw
namespace Nw
open PySem PySem.Spec PyProof.Rows L2
/-- a new list of things that hold no list -/
def lFF (q : VE) : VL := fun v o => (q v o).bind fun d => match d with
  | .lst l => if D.flats l = true then .ok (.lst l, o) else .bad
  | _ => .bad
theorem l_ff {a : DE} {q : VE} (h : QF a q) : JL a (lFF q) := fun pens b A P ks env m v o R => by
  have g := h (fun _ => False) env m v o (fun _ z => z.elim) R.loose
  unfold lFF
  cases e : q v o with
  | bad => trivial
  | exc _ _ => trivial
  | ok d =>
    rw [e] at g
    cases d with
    | lst l =>
      obtain ⟨k, r, ws, e1, h1, h2, h3⟩ := g
      show Lo XW pens b A P ks env v m _ (if D.flats l = true then .ok (.lst l, o) else .bad)
      by_cases c : D.flats l = true
      · rw [if_pos c]
        exact ⟨_, _, e1, R.app r, Kp.app _ _ _, .lst (fun z => absurd (R.bd k z) (by omega)) h2 (h3.flats c)⟩
      · rw [if_neg c]
        trivial
    | _ => trivial
/-- a new list, one's own, of things that hold no list, read of any slots -/
def vNewF (q : VE) (i : Nat) : VS := fun v o => toT (q v o) fun d => match d with
  | .lst l => if D.flats l = true then .nx (v.set i none) (o.set i (some l)) else .bad
  | _ => .bad
theorem sq_newF {pens : Pn} {a : DE} {q : VE} {i : Nat} (h : QF a q) (hp : pens.p i = false) : SQ pens (sSet a (gNam i)) (vNewF q i) := fun b A P ks env m v o R => by
  have g := h (fun _ => False) env m v o (fun _ z => z.elim) R.loose
  show So pens b A P ks m (Nw.toS env (a env m) fun w m1 => Nw.toS env (gNam i w env m1) fun env2 m2 => .fl (.nx env2) m2) (toT (q v o) fun d => match d with
    | .lst l => if D.flats l = true then .nx (v.set i none) (o.set i (some l)) else .bad
    | _ => .bad)
  cases e : q v o with
  | bad => trivial
  | exc c as =>
    rw [e] at g
    obtain ⟨ws, r, e1, hv⟩ := g
    show So pens b A P ks m _ (if D.flats as = true then .exc c as else .bad)
    by_cases hf : D.flats as = true
    · rw [if_pos hf, e1]
      exact ⟨ks, env, _, ws, v, o, rfl, R.app r, hv.flats hf⟩
    · rw [if_neg hf]
      trivial
  | ok d =>
    rw [e] at g
    cases d with
    | lst l =>
      obtain ⟨k, r, ws, e1, e3, e4, e5⟩ := g
      show So pens b A P ks m _ (if D.flats l = true then .nx (v.set i none) (o.set i (some l)) else .bad)
      by_cases c : D.flats l = true
      · rw [if_pos c, e1]
        have S := R.setO (i := i) hp e3 e4 (e5.flats c)
        exact ⟨_, _, _, rfl, S.1, S.2⟩
      · rw [if_neg c]
        trivial
    | _ => trivial
/-- any result of a reading, thrown away -/
def vExprO (q : VE) : VS := fun v o => toT (q v o) fun _ => .nx v o
theorem sq_exprO {pens : Pn} {a : DE} {q : VE} (h : QE a q) : SQ pens (sExpr a) (vExprO q) := fun b A P ks env m v o R => by
  have g := h (fun _ => False) env m v o (fun _ z => z.elim) R.loose
  show So pens b A P ks m (Nw.toS env (a env m) fun _ m1 => .fl (.nx env) m1) (toT (q v o) fun _ => .nx v o)
  cases e : q v o with
  | bad => trivial
  | exc c as =>
    rw [e] at g
    obtain ⟨ws, r, e1, hv⟩ := g
    show So pens b A P ks m _ (if D.flats as = true then .exc c as else .bad)
    by_cases hf : D.flats as = true
    · rw [if_pos hf, e1]
      exact ⟨ks, env, _, ws, v, o, rfl, R.app r, hv.flats hf⟩
    · rw [if_neg hf]
      trivial
  | ok d =>
    rw [e] at g
    obtain ⟨w, r, e1, hv⟩ := g
    rw [e1]
    exact ⟨ks, env, _, rfl, R.app r, Kp.app _ _ _⟩
end Nw
set_option Elab.async false
set_option linter.all false
set_option maxRecDepth 100000
set_option maxHeartbeats 1000000
namespace Nw
open PySem PySem.Spec PyProof.Rows L2
theorem ints_view {A : Nat → Prop} {m : Mem} : ∀ ns : List Int, Vws A m (ns.map W.int) (ns.map D.int)
  | [] => .nil
  | _ :: ns => .cons (.int _) (ints_view ns)
/-- what the law's own word of a refusal lays and tells -/
def kindS (c : Str) : Str := if c = "NoPlace" then "place" else if c = "NoNumber" then "number" else if c = "NoLine" then "line" else if c = "NoRing" then "ring" else if c = "NotEven" then "even" else if c = "NoWeb" then "web" else if c = "NoText" then "text" else if c = "TooGreat" then "great" else "other"
def kindM (c : Str) : Mem :=
  let a : List W := [.bl (subT c "NoPlace"), .bl (subT c "NoNumber"), .bl (subT c "NoLine"), .bl (subT c "NoRing")]
  let b : List W := [.bl (subT c "NotEven"), .bl (subT c "NoWeb"), .bl (subT c "NoText"), .bl (subT c "TooGreat")]
  [.lst a, .lst b, .lst (a ++ b)] ++ (if c = "RingError" then [] else [.lst [.str "place", .str "number", .str "line", .str "ring", .str "even", .str "web", .str "text", .str "great"]])
theorem kind_cold {c : Str} {o : O} (ho : o ∈ kindM c) {w : W} (hw : w ∈ o.els) : coldW w := by
  unfold kindM at ho
  simp only [List.cons_append, List.nil_append, List.mem_cons, List.not_mem_nil, or_false] at ho
  rcases ho with rfl | rfl | rfl | ho
  · simp only [O.els, List.mem_cons, List.not_mem_nil, or_false] at hw
    rcases hw with rfl | rfl | rfl | rfl <;> exact cold_bl _
  · simp only [O.els, List.mem_cons, List.not_mem_nil, or_false] at hw
    rcases hw with rfl | rfl | rfl | rfl <;> exact cold_bl _
  · simp only [O.els, List.mem_cons, List.not_mem_nil, or_false, List.cons_append, List.nil_append] at hw
    rcases hw with rfl | rfl | rfl | rfl | rfl | rfl | rfl | rfl <;> exact cold_bl _
  · by_cases q : c = "RingError"
    · rw [if_pos q] at ho
      cases ho
    · rw [if_neg q] at ho
      simp only [List.mem_cons, List.not_mem_nil, or_false] at ho
      subst ho
      simp only [O.els, List.mem_cons, List.not_mem_nil, or_false] at hw
      rcases hw with rfl | rfl | rfl | rfl | rfl | rfl | rfl | rfl <;> exact cold_str _
end Nw
namespace Nw
open PySem PySem.Spec PyProof.Rows L2
/-! ### the store-free reckoner's equations -/
section
variable {α β : Type} {v : VEnv} {o : OEnv} {i j k n : Nat} {a b c : VE} {as : VA} {la lb : VL} {ls : VLA} {t u : VT} {lt lu : VLT} {d : D} {x y : D}
@[simp] theorem r_bind_ok {x : α} {f : α → Ro β} : (Ro.ok x).bind f = f x := (rfl)
@[simp] theorem r_bind_exc {c : Str} {as : List D} {f : α → Ro β} : (Ro.exc c as : Ro α).bind f = .exc c as := (rfl)
@[simp] theorem r_bind_bad {f : α → Ro β} : (Ro.bad : Ro α).bind f = .bad := (rfl)
@[simp] theorem r_ofO {x : α} : ofO (some x) = .ok x := (rfl)
@[simp] theorem r_ofN : ofO (none : Option α) = .bad := (rfl)
@[simp] theorem r_only {x : α} : (Ro.ok x).only = .ok x := (rfl)
@[simp] theorem r_onlyE {c : Str} {as : List D} : (Ro.exc c as : Ro α).only = .bad := (rfl)
@[simp] theorem r_onlyB : (Ro.bad : Ro α).only = .bad := (rfl)
def gtV' (x : Option (Option D)) : Ro D := match x with
  | some (some d) => .ok d
  | _ => .bad
def gtO' (x : Option (Option (List D))) : Ro D := match x with
  | some (some d) => .ok (.lst d)
  | _ => .bad
@[simp] theorem w_gtV : gtV' (some (some d)) = .ok d := (rfl)
@[simp] theorem w_gtO {l : List D} : gtO' (some (some l)) = .ok (.lst l) := (rfl)
@[simp] theorem w_var : vVar i v o = gtV' v[i]? := (rfl)
@[simp] theorem w_own : vOwn i v o = gtO' o[i]? := (rfl)
@[simp] theorem w_c : vC d v o = .ok d := (rfl)
@[simp] theorem w_op {g : P2} : vOp g a b v o = (a v o).bind fun x => (b v o).bind fun y => ofO (g x y) := (rfl)
@[simp] theorem w_un {g : P1} : vUn g a v o = (a v o).bind fun x => ofO (g x) := (rfl)
@[simp] theorem w_nil : vNil v o = .ok [] := (rfl)
@[simp] theorem w_cons : vCons a as v o = (a v o).bind fun x => (as v o).bind fun xs => .ok (x :: xs) := (rfl)
@[simp] theorem w_cb {g : PN} : vCB g as v o = (as v o).bind fun xs => ofO (g xs) := (rfl)
@[simp] theorem w_tru : vTru a v o = (a v o).bind fun d => ofO (truD d) := (rfl)
@[simp] theorem w_tst : vTst a v o = (a v o).bind fun d => ofO (blD d) := (rfl)
@[simp] theorem w_blD {b : Bool} : blD (.bl b) = some b := (rfl)
@[simp] theorem w_truB {b : Bool} : truD (.bl b) = some b := (rfl)
@[simp] theorem w_truN : truD .non = some false := (rfl)
@[simp] theorem w_truI {z : Int} : truD (.int z) = some (z != 0) := (rfl)
@[simp] theorem w_truL {l : List D} : truD (.lst l) = some (!l.isEmpty) := (rfl)
@[simp] theorem w_truT {l : List D} : truD (.tup l) = some (!l.isEmpty) := (rfl)
@[simp] theorem w_and : vAnd t u v o = (t v o).bind fun c => if c = true then u v o else .ok false := (rfl)
@[simp] theorem w_or : vOr t u v o = (t v o).bind fun c => if c = true then .ok true else u v o := (rfl)
@[simp] theorem w_not : vNot t v o = (t v o).bind fun c => .ok (!c) := (rfl)
@[simp] theorem w_if : vIf t a b v o = (t v o).bind fun c => if c = true then a v o else b v o := (rfl)
@[simp] theorem w_andV : vAndV a b v o = (a v o).bind fun d => (ofO (truD d)).bind fun c => if c = true then b v o else .ok d := (rfl)
@[simp] theorem w_orV : vOrV a b v o = (a v o).bind fun d => (ofO (truD d)).bind fun c => if c = true then .ok d else b v o := (rfl)
@[simp] theorem w_notV : vNotV a v o = (a v o).bind fun d => (ofO (truD d)).bind fun c => .ok (.bl (!c)) := (rfl)
@[simp] theorem w_chn {f g : P2} : vChn f g a b c v o = (a v o).bind fun x => (b v o).bind fun y => (ofO (f x y)).bind fun z => (ofO (blD z)).bind fun k => if k = true then (c v o).bind fun u => ofO (g y u) else .ok (.bl false) := (rfl)
@[simp] theorem w_yes : vYes v o = .ok true := (rfl)
@[simp] theorem w_call {F : FD} : vCall n F as v o = (as v o).bind fun ds => if ds.length = n then F ds else .bad := (rfl)
@[simp] theorem w_call0 {F : FD} : vCall0 F v o = F [] := (rfl)
def callV' (n : Nat) (t : List (Str × FD)) (as : Ro (List D)) (d : D) : Ro D := match d with
  | .fn x => (match t.lookup x with
    | some F => as.bind fun ds => if ds.length = n then F ds else .bad
    | none => .bad)
  | _ => .bad
@[simp] theorem w_callV {t : List (Str × FD)} : vCallV n t a as v o = (a v o).bind (callV' n t (as v o)) := (rfl)
@[simp] theorem w_isi {t : Ty} : vIsi t a v o = (a v o).bind fun d => ofO ((t.hasV d).map .bl) := (rfl)
@[simp] theorem w_bm {g : PM} : vBM g a as v o = (a v o).bind fun d => match d with
  | .lst l => (as v o).bind fun xs => ofO (g l xs)
  | _ => .bad := (rfl)
@[simp] theorem w_is : vIs a v o = (a v o).bind fun d => ofO (seqV d) := (rfl)
def rng1' (ws : List D) : Ro (List D) := match ws with
  | [.int j] => if -1000000 ≤ j ∧ j ≤ 1000000 then .ok (rngD 0 j.toNat) else .bad
  | _ => .bad
def rng2' (ws : List D) : Ro (List D) := match ws with
  | [.int i, .int j] => if -1000000 ≤ i ∧ i ≤ 1000000 ∧ -1000000 ≤ j ∧ j ≤ 1000000 then .ok (rngD i (j - i).toNat) else .bad
  | _ => .bad
@[simp] theorem w_rng1 : vRng1 as v o = (as v o).bind rng1' := (rfl)
@[simp] theorem w_rng2 : vRng2 as v o = (as v o).bind rng2' := (rfl)
@[simp] theorem w_rng1' {j : Int} : rng1' [.int j] = if -1000000 ≤ j ∧ j ≤ 1000000 then .ok (rngD 0 j.toNat) else .bad := (rfl)
@[simp] theorem w_rng2' {i j : Int} : rng2' [.int i, .int j] = if -1000000 ≤ i ∧ i ≤ 1000000 ∧ -1000000 ≤ j ∧ j ≤ 1000000 then .ok (rngD i (j - i).toNat) else .bad := (rfl)
@[simp] theorem w_no : vNo v o = .ok none := (rfl)
def at' (d : D) : Ro (Option Int) := match d with
  | .int i => .ok (some i)
  | _ => .bad
@[simp] theorem w_at : vAt a v o = (a v o).bind at' := (rfl)
@[simp] theorem w_at' {z : Int} : at' (.int z) = .ok (some z) := (rfl)
@[simp] theorem w_sl {lo hi : VO} : vSl a lo hi v o = (a v o).bind fun a => (lo v o).bind fun l => (hi v o).bind fun h => ofO (slV l h a) := (rfl)
@[simp] theorem w_lc {it : VI} {g : VG} {vs : List Nat} : vLc it g t a vs v o = (it v o).bind fun items => if items.length < 100000 then (lcV g t a (wipeV v vs) (wipeO o vs) items).bind fun l => .ok (.lst l) else .bad := (rfl)
@[simp] theorem w_lcN {g : VG} : lcV g t a v o [] = .ok [] := (rfl)
@[simp] theorem w_lcC {g : VG} {ds : List D} : lcV g t a v o (d :: ds) = (g d v o).only.bind fun p => (t p.1 p.2).only.bind fun c => if c = true then (a p.1 p.2).only.bind fun y => (lcV g t a v o ds).bind fun l => .ok (y :: l) else lcV g t a v o ds := (rfl)
@[simp] theorem w_wipeN : wipeV v [] = v := (rfl)
@[simp] theorem w_wipeC {is : List Nat} : wipeV v (i :: is) = (wipeV v is).set i none := (rfl)
@[simp] theorem w_wipeON : wipeO o [] = o := (rfl)
@[simp] theorem w_wipeOC {is : List Nat} : wipeO o (i :: is) = (wipeO o is).set i none := (rfl)
@[simp] theorem w_gN : vgN i d v o = .ok (v.set i (some d), o.set i none) := (rfl)
@[simp] theorem w_gNl : vgNl [] v o = .ok (v, o) := (rfl)
@[simp] theorem w_gC {g : VG} {gs : VGs} {ds : List D} : vgC g gs (d :: ds) v o = (g d v o).bind fun p => gs ds p.1 p.2 := (rfl)
@[simp] theorem w_gT {gs : VGs} {ds : List D} : vgT n gs (.tup ds) v o = if ds.length = n then gs ds v o else .bad := (rfl)
-- what changes lists of one's own
@[simp] theorem w_lQ : lQ a v o = (a v []).bind fun d => .ok (d, o) := (rfl)
@[simp] theorem w_lF : lF a v o = (a v o).bind fun d => if d.flat = true then .ok (d, o) else .bad := (rfl)
def lff' (o : OEnv) (d : D) : Ro (D × OEnv) := match d with
  | .lst l => if D.flats l = true then .ok (.lst l, o) else .bad
  | _ => .bad
@[simp] theorem w_lFF : lFF a v o = (a v o).bind (lff' o) := (rfl)
@[simp] theorem w_lff' {l : List D} : lff' o (.lst l) = if D.flats l = true then .ok (.lst l, o) else .bad := (rfl)
@[simp] theorem w_lOp {g : P2} : lOp g la lb v o = (la v o).bind fun p => (lb v p.2).bind fun p2 => (ofO (g p.1 p2.1)).bind fun d => .ok (d, p2.2) := (rfl)
@[simp] theorem w_lUn {g : P1} : lUn g la v o = (la v o).bind fun p => (ofO (g p.1)).bind fun d => .ok (d, p.2) := (rfl)
@[simp] theorem w_lNil : lNil v o = .ok ([], o) := (rfl)
@[simp] theorem w_lCons : lCons la ls v o = (la v o).bind fun p => (ls v p.2).bind fun p2 => .ok (p.1 :: p2.1, p2.2) := (rfl)
@[simp] theorem w_lCB {g : PN} : lCB g ls v o = (ls v o).bind fun p => (ofO (g p.1)).bind fun d => .ok (d, p.2) := (rfl)
@[simp] theorem w_lCallQ {F : FD} : lCallQ n F ls v o = (ls v o).bind fun p => (if p.1.length = n then F p.1 else .bad).bind fun d => .ok (d, p.2) := (rfl)
@[simp] theorem w_lTst : lTst la v o = (la v o).bind fun p => (ofO (blD p.1)).bind fun b => .ok (b, p.2) := (rfl)
@[simp] theorem w_lTru : lTru la v o = (la v o).bind fun p => (ofO (truD p.1)).bind fun b => .ok (b, p.2) := (rfl)
@[simp] theorem w_lTQ : lTQ t v o = (t v o).bind fun d => .ok (d, o) := (rfl)
@[simp] theorem w_lAnd : lAnd lt lu v o = (lt v o).bind fun p => if p.1 = true then lu v p.2 else .ok (false, p.2) := (rfl)
@[simp] theorem w_lOr : lOr lt lu v o = (lt v o).bind fun p => if p.1 = true then .ok (true, p.2) else lu v p.2 := (rfl)
@[simp] theorem w_lNot : lNot lt v o = (lt v o).bind fun p => .ok (!p.1, p.2) := (rfl)
@[simp] theorem w_lIf : lIf lt la lb v o = (lt v o).bind fun p => if p.1 = true then la v p.2 else lb v p.2 := (rfl)
def bm2 (g : PMut) (i : Nat) (p : List D × OEnv) (x : Option (Option (List D))) : Ro (D × OEnv) := match x with
  | some (some l) => (ofO (g l p.1)).bind fun q => .ok (q.1, p.2.set i (some q.2))
  | _ => .bad
def bm1 (g : PMut) (i : Nat) (r : Ro (List D × OEnv)) (x : Option (Option (List D))) : Ro (D × OEnv) := match x with
  | some (some _) => r.bind fun p => bm2 g i p p.2[i]?
  | _ => .bad
@[simp] theorem w_lBM {g : PMut} : lBM g i ls v o = bm1 g i (ls v o) o[i]? := (rfl)
@[simp] theorem w_bm1 {g : PMut} {r : Ro (List D × OEnv)} {l : List D} : bm1 g i r (some (some l)) = r.bind fun p => bm2 g i p p.2[i]? := (rfl)
@[simp] theorem w_bm2 {g : PMut} {p : List D × OEnv} {l : List D} : bm2 g i p (some (some l)) = (ofO (g l p.1)).bind fun q => .ok (q.1, p.2.set i (some q.2)) := (rfl)
def lph (r : Ro (List D × OEnv)) (x : Option (Option (List D))) : Ro ((List D × List D) × OEnv) := match x with
  | some (some _) => r.bind fun p => .ok (([], p.1), p.2)
  | _ => .bad
@[simp] theorem w_lpHere : lpHere i ls v o = lph (ls v o) o[i]? := (rfl)
@[simp] theorem w_lph {r : Ro (List D × OEnv)} {l : List D} : lph r (some (some l)) = r.bind fun p => .ok (([], p.1), p.2) := (rfl)
@[simp] theorem w_lpCons {q : VLP} : lpCons la q v o = (la v o).bind fun p => (q v p.2).bind fun p2 => .ok ((p.1 :: p2.1.1, p2.1.2), p2.2) := (rfl)
def lcp (n i j : Nat) (F : FP) (p : (List D × List D) × OEnv) (x : Option (Option (List D))) : Ro (D × OEnv) := match x with
  | some (some l) => if p.1.1.length + (p.1.2.length + 1) = n ∧ p.1.1.length = j then (F (p.1.1 ++ .lst l :: p.1.2)).bind fun r => .ok (r.1, p.2.set i (some r.2)) else .bad
  | _ => .bad
@[simp] theorem w_lCallP {F : FP} {q : VLP} : lCallP n i j F q v o = (q v o).bind fun p => lcp n i j F p p.2[i]? := (rfl)
@[simp] theorem w_lcp {F : FP} {p : (List D × List D) × OEnv} {l : List D} : lcp n i j F p (some (some l)) = if p.1.1.length + (p.1.2.length + 1) = n ∧ p.1.1.length = j then (F (p.1.1 ++ .lst l :: p.1.2)).bind fun r => .ok (r.1, p.2.set i (some r.2)) else .bad := (rfl)
@[simp] theorem w_lLc {it : VI} {g : VG} {vs : List Nat} : lLc it g lt la vs v o = (it v []).only.bind fun items => if items.length < 100000 then (lcL' g lt la (wipeV v vs) items (wipeO o vs)).only.bind fun p => .ok (.lst p.1, p.2) else .bad := (rfl)
@[simp] theorem w_lcLN {g : VG} : lcL' g lt la v [] o = .ok ([], o) := (rfl)
theorem w_lcLC {g : VG} {ds : List D} : lcL' g lt la v (d :: ds) o = (g d v o).only.bind fun p => (lt p.1 p.2).only.bind fun c => if c.1 = true then (la p.1 c.2).only.bind fun y => (lcL' g lt la v ds y.2).bind fun l => .ok (y.1 :: l.1, l.2) else lcL' g lt la v ds c.2 := (rfl)
-- statements
@[simp] theorem w_toV {x : α} {f : α → VOu} : toV (.ok x) f = f x := (rfl)
@[simp] theorem w_toVe {c : Str} {as : List D} {f : α → VOu} : toV (.exc c as : Ro α) f = .exc c as := (rfl)
@[simp] theorem w_toL {x : α} {f : α → VOu} : toL (.ok x) f = f x := (rfl)
@[simp] theorem w_toT {x : α} {f : α → VOu} : toT (.ok x) f = f x := (rfl)
@[simp] theorem w_toTe {c : Str} {as : List D} {f : α → VOu} : toT (.exc c as : Ro α) f = if D.flats as = true then .exc c as else .bad := (rfl)
@[simp] theorem w_then {f : VEnv → OEnv → VOu} : thenV (.nx v o) f = f v o := (rfl)
@[simp] theorem w_thenR {f : VEnv → OEnv → VOu} : thenV (.rt d o) f = .rt d o := (rfl)
@[simp] theorem w_thenE {c : Str} {as : List D} {f : VEnv → OEnv → VOu} : thenV (.exc c as) f = .exc c as := (rfl)
@[simp] theorem w_thenB {f : VEnv → OEnv → VOu} : thenV (.bk v o) f = .bk v o := (rfl)
@[simp] theorem w_thenC {f : VEnv → OEnv → VOu} : thenV (.ct v o) f = .ct v o := (rfl)
@[simp] theorem w_next : vNext v o = .nx v o := (rfl)
@[simp] theorem w_break : vBreak v o = .bk v o := (rfl)
@[simp] theorem w_cont : vCont v o = .ct v o := (rfl)
@[simp] theorem w_seq {s r : VS} : vSeq s r v o = thenV (s v o) r := (rfl)
@[simp] theorem w_expr : vExpr a v o = toV (a v []) fun _ => .nx v o := (rfl)
@[simp] theorem w_exprO : vExprO a v o = toT (a v o) fun _ => .nx v o := (rfl)
@[simp] theorem w_exprL : vExprL la v o = toL (la v o) fun p => .nx v p.2 := (rfl)
@[simp] theorem w_ret : vRet a v o = toV (a v []) fun d => .rt d o := (rfl)
@[simp] theorem w_retO : vRetO a v o = toV (a v o) fun d => .rt d o := (rfl)
@[simp] theorem w_retL : vRetL la v o = toL (la v o) fun p => .rt p.1 p.2 := (rfl)
@[simp] theorem w_retN : vRetN v o = .rt .non o := (rfl)
@[simp] theorem w_ifS {s r : VS} : vIfS t s r v o = toT (t v o) fun c => if c = true then s v o else r v o := (rfl)
@[simp] theorem w_ifL {s r : VS} : vIfL lt s r v o = toL (lt v o) fun p => if p.1 = true then s v p.2 else r v p.2 := (rfl)
@[simp] theorem w_toG {p : VEnv × OEnv} : toG (.ok p) = .nx p.1 p.2 := (rfl)
@[simp] theorem w_set {g : VG} : vSet a g v o = toV (a v []) fun d => toG (g d v o) := (rfl)
@[simp] theorem w_setL {g : VG} : vSetL la g v o = toL (la v o) fun p => toG (g p.1 v p.2) := (rfl)
def new' (v : VEnv) (o : OEnv) (i : Nat) (d : D) : VOu := match d with
  | .lst l => .nx (v.set i none) (o.set i (some l))
  | _ => .bad
@[simp] theorem w_new : vNew a i v o = toV (a v []) (new' v o i) := (rfl)
@[simp] theorem w_new' {l : List D} : new' v o i (.lst l) = .nx (v.set i none) (o.set i (some l)) := (rfl)
def newF' (v : VEnv) (o : OEnv) (i : Nat) (d : D) : VOu := match d with
  | .lst l => if D.flats l = true then .nx (v.set i none) (o.set i (some l)) else .bad
  | _ => .bad
@[simp] theorem w_newF : vNewF a i v o = toT (a v o) (newF' v o i) := (rfl)
@[simp] theorem w_newF' {l : List D} : newF' v o i (.lst l) = if D.flats l = true then .nx (v.set i none) (o.set i (some l)) else .bad := (rfl)
def move' (v : VEnv) (o : OEnv) (j i : Nat) (x : Option (Option (List D))) : VOu := match x with
  | some (some l) => .nx (v.set i (some (.lst l))) ((o.set j none).set i none)
  | _ => .bad
@[simp] theorem w_move : vMove j i v o = move' v o j i o[j]? := (rfl)
@[simp] theorem w_move' {l : List D} : move' v o j i (some (some l)) = .nx (v.set i (some (.lst l))) ((o.set j none).set i none) := (rfl)
@[simp] theorem w_par : vPar i j as v o = toV (as v []) fun ds => match ds with
  | [x, y] => .nx ((v.set i (some x)).set j (some y)) ((o.set i none).set j none)
  | _ => .bad := (rfl)
@[simp] theorem w_parL : vParL i j ls v o = toL (ls v o) fun p => match p.1 with
  | [x, y] => .nx ((v.set i (some x)).set j (some y)) ((p.2.set i none).set j none)
  | _ => .bad := (rfl)
def aug' (v : VEnv) (o : OEnv) (i : Nat) (f : P2) (r : Ro D) (x : Option (Option D)) : VOu := match x with
  | some (some a) => toV r fun x => toV (ofO (f a x)) fun d => .nx (v.set i (some d)) (o.set i none)
  | _ => .bad
@[simp] theorem w_aug {f : P2} : vAug i f a v o = aug' v o i f (a v []) v[i]? := (rfl)
@[simp] theorem w_aug' {f : P2} {r : Ro D} : aug' v o i f r (some (some d)) = toV r fun x => toV (ofO (f d x)) fun d => .nx (v.set i (some d)) (o.set i none) := (rfl)
@[simp] theorem w_raise0 {c : Str} : vRaise0 c v o = .exc c [] := (rfl)
def six2 (v : VEnv) (o : OEnv) (i : Nat) (x d : D) (y : Option (Option (List D))) : VOu := match y, d with
  | some (some l), .int j => (match ixN l.length j with
    | some n => .nx v (o.set i (some (l.set n x)))
    | none => .bad)
  | _, _ => .bad
@[simp] theorem w_setIx : vSetIx i la lb v o = toL (la v o) fun p => toL (lb v p.2) fun p2 => six2 v p2.2 i p.1 p2.1 p2.2[i]? := (rfl)
def six3 (v : VEnv) (o : OEnv) (i : Nat) (x : D) (l : List D) (y : Option Nat) : VOu := match y with
  | some n => .nx v (o.set i (some (l.set n x)))
  | none => .bad
@[simp] theorem w_six2 {l : List D} {j : Int} : six2 v o i x (.int j) (some (some l)) = six3 v o i x l (ixN l.length j) := (rfl)
@[simp] theorem w_six3 {l : List D} : six3 v o i x l (some n) = .nx v (o.set i (some (l.set n x))) := (rfl)
@[simp] theorem w_for {it : VI} {g : VG} {s : VS} : vFor it g s v o = toV (it v []) fun items => loopV g s items v o := (rfl)
def turn' (x : VOu) (f : VEnv → OEnv → VOu) : VOu := match x with
  | .nx v2 o2 => f v2 o2
  | .ct v2 o2 => f v2 o2
  | .bk v2 o2 => .nx v2 o2
  | x => x
def tgt' (x : Ro (VEnv × OEnv)) (f : VEnv → OEnv → VOu) : VOu := match x with
  | .ok p => f p.1 p.2
  | _ => .bad
@[simp] theorem w_loopN {g : VG} {s : VS} : loopV g s [] v o = .nx v o := (rfl)
theorem w_loopC {g : VG} {s : VS} {ds : List D} : loopV g s (d :: ds) v o = tgt' (g d v o) fun v2 o2 => turn' (s v2 o2) (loopV g s ds) := (rfl)
@[simp] theorem w_tgt {p : VEnv × OEnv} {f : VEnv → OEnv → VOu} : tgt' (.ok p) f = f p.1 p.2 := (rfl)
@[simp] theorem w_turnN {f : VEnv → OEnv → VOu} : turn' (.nx v o) f = f v o := (rfl)
@[simp] theorem w_turnC {f : VEnv → OEnv → VOu} : turn' (.ct v o) f = f v o := (rfl)
@[simp] theorem w_turnB {f : VEnv → OEnv → VOu} : turn' (.bk v o) f = .nx v o := (rfl)
@[simp] theorem w_turnR {f : VEnv → OEnv → VOu} : turn' (.rt d o) f = .rt d o := (rfl)
@[simp] theorem w_turnE {c : Str} {as : List D} {f : VEnv → OEnv → VOu} : turn' (.exc c as) f = .exc c as := (rfl)
theorem w_while0 {s : VS} : whileV t s 0 v o = .bad := (rfl)
theorem w_whileS {s : VS} : whileV t s (n + 1) v o = toT (t v o) fun c => if c = true then turn' (s v o) (whileV t s n) else .nx v o := (rfl)
def try' (h : Str → List D → Option D) (x : VOu) : VOu := match x with
  | .exc c as => (match h c as with
    | some d => .rt d []
    | none => .bad)
  | x => x
@[simp] theorem w_try {s : VS} {h : Str → List D → Option D} : vTry s h v o = try' h (s v o) := (rfl)
def tryE (x : Option D) : VOu := match x with
  | some d => .rt d []
  | none => .bad
@[simp] theorem w_tryE {h : Str → List D → Option D} {c : Str} {as : List D} : try' h (.exc c as) = tryE (h c as) := (rfl)
@[simp] theorem w_tryE' : tryE (some d) = .rt d [] := (rfl)
@[simp] theorem w_tryR {h : Str → List D → Option D} : try' h (.rt d o) = .rt d o := (rfl)
@[simp] theorem w_tryN {h : Str → List D → Option D} : try' h (.nx v o) = .nx v o := (rfl)
def endV : VOu → Ro D
  | .rt d _ => .ok d
  | .nx _ _ => .ok .non
  | .exc c as => .exc c as
  | _ => .bad
@[simp] theorem w_def {s : VS} {ds : List D} : defV k n s ds = if ds.length = k then endV (s (ds.map some ++ List.replicate (n - ds.length) none) (List.replicate n none)) else .bad := by
  unfold defV runV endV
  rfl
@[simp] theorem w_endR : endV (.rt d o) = .ok d := (rfl)
@[simp] theorem w_endN : endV (.nx v o) = .ok .non := (rfl)
@[simp] theorem w_endE {c : Str} {as : List D} : endV (.exc c as) = .exc c as := (rfl)
end
end Nw
set_option Elab.async false
set_option linter.all false
set_option maxRecDepth 100000
set_option maxHeartbeats 1000000
namespace Nw
open PySem PySem.Spec PyProof.Rows L2
/-! ### loops by what stands in each turn -/
def TurnQ (I : VEnv → OEnv → Prop) (P : VOu → Prop) : VOu → Prop
  | .nx v o => I v o
  | .ct v o => I v o
  | .bk v o => P (.nx v o)
  | x => P x
theorem loopV_post {g : VG} {s : VS} (P : VOu → Prop) (I : Nat → VEnv → OEnv → Prop) : ∀ (items : List D) (v : VEnv) (o : OEnv), I 0 v o →
    (∀ (k : Nat) d v o, items[k]? = some d → I k v o → TurnQ (I (k + 1)) P (tgt' (g d v o) s)) → (∀ v o, I items.length v o → P (.nx v o)) → P (loopV g s items v o)
  | [], v, o, h0, _, he => he v o h0
  | d :: ds, v, o, h0, hs, he => by
    rw [w_loopC]
    have h := hs 0 d v o rfl h0
    cases e : g d v o with
    | bad => rw [e] at h; exact h
    | exc _ _ => rw [e] at h; exact h
    | ok p =>
      rw [e] at h
      have h : TurnQ (I 1) P (s p.1 p.2) := h
      show P (turn' (s p.1 p.2) (loopV g s ds))
      cases e2 : s p.1 p.2 with
      | nx v2 o2 =>
        rw [e2] at h
        exact loopV_post P (fun k => I (k + 1)) ds v2 o2 h (fun k d v o hk hi => hs (k + 1) d v o (by simpa using hk) hi) he
      | ct v2 o2 =>
        rw [e2] at h
        exact loopV_post P (fun k => I (k + 1)) ds v2 o2 h (fun k d v o hk hi => hs (k + 1) d v o (by simpa using hk) hi) he
      | bk v2 o2 => rw [e2] at h; exact h
      | rt d2 o2 => rw [e2] at h; exact h
      | exc c as => rw [e2] at h; exact h
      | bad => rw [e2] at h; exact h
/-- one thing stands in each turn -/
theorem loopV_all {g : VG} {s : VS} (P : VOu → Prop) (I : VEnv → OEnv → Prop) {items : List D} {v : VEnv} {o : OEnv} (h0 : I v o) (hs : ∀ d v o, d ∈ items → I v o → TurnQ I P (tgt' (g d v o) s)) (he : ∀ v o, I v o → P (.nx v o)) : P (loopV g s items v o) :=
  loopV_post P (fun _ => I) items v o h0 (fun k d v o hk hi => hs d v o (List.mem_of_getElem? hk) hi) he
/-- a loop whose states are told -/
theorem loopV_to {g : VG} {s : VS} (f : Nat → VEnv) (q : Nat → OEnv) : ∀ (items : List D) (k : Nat), (∀ (j : Nat) d, items[j]? = some d → tgt' (g d (f (k + j)) (q (k + j))) s = .nx (f (k + j + 1)) (q (k + j + 1))) → loopV g s items (f k) (q k) = .nx (f (k + items.length)) (q (k + items.length))
  | [], k, _ => rfl
  | d :: ds, k, h => by
    have h0 := h 0 d rfl
    rw [Nat.add_zero] at h0
    rw [w_loopC]
    cases e : g d (f k) (q k) with
    | bad => rw [e] at h0; cases h0
    | exc _ _ => rw [e] at h0; cases h0
    | ok p =>
      rw [e] at h0
      have h0 : s p.1 p.2 = .nx (f (k + 1)) (q (k + 1)) := h0
      show turn' (s p.1 p.2) (loopV g s ds) = _
      rw [h0, w_turnN, loopV_to f q ds (k + 1) fun j d hj => by
        have := h (j + 1) d (by simpa using hj)
        rwa [show k + 1 + j = k + (j + 1) by omega]]
      rw [show k + (d :: ds).length = k + 1 + ds.length by rw [List.length_cons]; omega]
theorem rng_get {lo : Int} {n k : Nat} {d : D} (h : (rngD lo n)[k]? = some d) : k < n ∧ d = .int (lo + k) := by
  unfold rngD at h
  rw [List.getElem?_map] at h
  by_cases c : k < n
  · rw [List.getElem?_range c] at h
    cases h
    exact ⟨c, rfl⟩
  · rw [List.getElem?_eq_none (by rw [List.length_range]; omega)] at h
    cases h
@[simp] theorem rng_len {lo : Int} {n : Nat} : (rngD lo n).length = n := by
  unfold rngD
  rw [List.length_map, List.length_range]
theorem rng_mem {lo : Int} {n : Nat} {d : D} (h : d ∈ rngD lo n) : ∃ k : Nat, k < n ∧ d = .int (lo + k) := by
  obtain ⟨k, h⟩ := List.mem_iff_getElem?.mp h
  exact ⟨k, rng_get h⟩
theorem whileV_post {t : VT} {s : VS} (P : VOu → Prop) (I : Nat → VEnv → OEnv → Prop) (hs : ∀ k v o, I k v o → ∃ c, t v o = .ok c ∧ (c = false → P (.nx v o)) ∧ (c = true → TurnQ (fun v2 o2 => ∃ j, j < k ∧ I j v2 o2) P (s v o))) :
    ∀ (fuel k : Nat) (v : VEnv) (o : OEnv), k < fuel → I k v o → P (whileV t s fuel v o)
  | 0, k, v, o, h, _ => absurd h (Nat.not_lt_zero _)
  | fuel + 1, k, v, o, h, hI => by
    rw [w_whileS]
    obtain ⟨c, e, h1, h2⟩ := hs k v o hI
    rw [e, w_toT]
    cases c with
    | false => exact h1 rfl
    | true =>
      rw [if_pos rfl]
      have tt := h2 rfl
      cases e2 : s v o with
      | nx v2 o2 =>
        rw [e2] at tt
        obtain ⟨j, hj, hI2⟩ := tt
        exact whileV_post P I hs fuel j v2 o2 (by omega) hI2
      | ct v2 o2 =>
        rw [e2] at tt
        obtain ⟨j, hj, hI2⟩ := tt
        exact whileV_post P I hs fuel j v2 o2 (by omega) hI2
      | bk v2 o2 => rw [e2] at tt; exact tt
      | rt d2 o2 => rw [e2] at tt; exact tt
      | exc c as => rw [e2] at tt; exact tt
      | bad => rw [e2] at tt; exact tt

/-! ### the operations on ints -/
section
variable {i j : Int} {x y : Str} {l r : List D} {b c : Bool} {d : D}
@[simp] theorem p_add : addV (.int i) (.int j) = some (.int (i + j)) := (rfl)
@[simp] theorem p_addT : addV (.tup l) (.tup r) = if l.length + r.length ≤ 100000 then some (.tup (l ++ r)) else none := (rfl)
@[simp] theorem p_addL : addV (.lst l) (.lst r) = if l.length + r.length ≤ 100000 then some (.lst (l ++ r)) else none := (rfl)
@[simp] theorem p_addS : addV (.str x) (.str y) = if x.length + y.length ≤ 100000 then some (.str (x ++ y)) else none := (rfl)
@[simp] theorem p_sub : subV (.int i) (.int j) = some (.int (i - j)) := (rfl)
@[simp] theorem p_mul : mulV (.int i) (.int j) = if (-big < i ∧ i < big) ∨ (-big < j ∧ j < big) then some (.int (i * j)) else none := (rfl)
@[simp] theorem p_mulL : mulV (.lst l) (.int j) = if -100000 ≤ j ∧ j ≤ 100000 ∧ l.length * j.toNat ≤ 100000 then some (.lst (List.replicate j.toNat l).flatten) else none := (rfl)
@[simp] theorem p_mod : modV (.int i) (.int j) = if 0 < j then some (.int (i % j)) else none := (rfl)
@[simp] theorem p_fdiv : fdivV (.int i) (.int j) = if 0 < j ∧ j < 1073741824 then some (.int (i / j)) else none := (rfl)
@[simp] theorem p_pow : powV (.int i) (.int j) = if 0 ≤ j ∧ j ≤ 1000 ∧ i.natAbs < 18446744073709551616 then some (.int (i ^ j.toNat)) else none := (rfl)
@[simp] theorem p_neg : negV (.int i) = some (.int (-i)) := (rfl)
@[simp] theorem p_lt : ltV (.int i) (.int j) = some (.bl (decide (i < j))) := (rfl)
@[simp] theorem p_le : leV (.int i) (.int j) = some (.bl (decide (i ≤ j))) := (rfl)
@[simp] theorem p_gt : gtV (.int i) (.int j) = some (.bl (decide (j < i))) := (rfl)
@[simp] theorem p_ge : geV (.int i) (.int j) = some (.bl (decide (j ≤ i))) := (rfl)
@[simp] theorem p_eq : eqV (.int i) (.int j) = some (.bl (decide (i = j))) := (rfl)
@[simp] theorem p_ne : neV (.int i) (.int j) = some (.bl (!decide (i = j))) := (rfl)
@[simp] theorem p_isN : isV d .non = some (.bl (nonV d)) := (rfl)
@[simp] theorem p_isnN : isnV d .non = some (.bl (!nonV d)) := (rfl)
@[simp] theorem p_isB : isV (.bl b) (.bl c) = some (.bl (decide (b = c))) := (rfl)
@[simp] theorem p_isnB : isnV (.bl b) (.bl c) = some (.bl (!decide (b = c))) := (rfl)
@[simp] theorem p_nonN : nonV .non = true := (rfl)
@[simp] theorem p_nonI : nonV (.int i) = false := (rfl)
@[simp] theorem p_nonT : nonV (.tup l) = false := (rfl)
@[simp] theorem p_nonL : nonV (.lst l) = false := (rfl)
@[simp] theorem p_nonB : nonV (.bl b) = false := (rfl)
@[simp] theorem p_max2 : max2V [.int i, .int j] = some (.int (if j > i then j else i)) := (rfl)
@[simp] theorem p_min2 : min2V [.int i, .int j] = some (.int (if j < i then j else i)) := (rfl)
@[simp] theorem p_int : intV [.int i] = some (.int i) := (rfl)
@[simp] theorem p_intB : intV [.bl b] = some (.int (if b then 1 else 0)) := (rfl)
@[simp] theorem p_tup : tupV l = if l.length ≤ 100000 then some (.tup l) else none := (rfl)
@[simp] theorem p_lst : lstV l = if l.length ≤ 100000 then some (.lst l) else none := (rfl)
@[simp] theorem p_lenL : lenV [.lst l] = some (.int l.length) := (rfl)
@[simp] theorem p_lenF : lenV [.fro l] = some (.int l.length) := (rfl)
@[simp] theorem p_lenT : lenV [.tup l] = some (.int l.length) := (rfl)
@[simp] theorem p_tuple : tupleV [d] = (seqV d).map .tup := (rfl)
@[simp] theorem p_list : listV [d] = (seqV d).map .lst := (rfl)
@[simp] theorem p_seqL : seqV (.lst l) = some l := (rfl)
@[simp] theorem p_seqF : seqV (.fro l) = some l := (rfl)
@[simp] theorem p_seqT : seqV (.tup l) = some l := (rfl)
@[simp] theorem p_ixL : ixV (.lst l) (.int i) = atV l i := (rfl)
@[simp] theorem p_ixF : ixV (.fro l) (.int i) = atV l i := (rfl)
@[simp] theorem p_ixT : ixV (.tup l) (.int i) = atV l i := (rfl)
theorem p_at {n : Nat} : atV l (n : Int) = l[n]? := by
  unfold atV
  rw [if_pos (by omega), Int.toNat_natCast]
@[simp] theorem p_at0 : atV l 0 = l[0]? := (rfl)
@[simp] theorem p_at1 : atV l 1 = l[1]? := (rfl)
@[simp] theorem p_at2 : atV l 2 = l[2]? := (rfl)
@[simp] theorem p_slL {lo hi : Option Int} : slV lo hi (.lst l) = some (.lst (cutD l lo hi)) := (rfl)
@[simp] theorem p_slF {lo hi : Option Int} : slV lo hi (.fro l) = some (.lst (cutD l lo hi)) := (rfl)
@[simp] theorem p_slT {lo hi : Option Int} : slV lo hi (.tup l) = some (.tup (cutD l lo hi)) := (rfl)
theorem cut_mem {lo hi : Option Int} (h : d ∈ cutD l lo hi) : d ∈ l := List.mem_of_mem_drop (List.mem_of_mem_take h)
@[simp] theorem p_hInt {t : Ty} : t.hasV (.int i) = some (t.is .int) := (rfl)
@[simp] theorem p_hBl {t : Ty} : t.hasV (.bl b) = some (t.is .int || t.is .bool) := (rfl)
@[simp] theorem p_hNon {t : Ty} : t.hasV .non = some false := (rfl)
@[simp] theorem p_hStr {t : Ty} : t.hasV (.str x) = some (t.is .str) := (rfl)
@[simp] theorem p_hTup {t : Ty} : t.hasV (.tup l) = some (t.is .tuple) := (rfl)
@[simp] theorem p_hLst {t : Ty} : t.hasV (.lst l) = some (t.is .list) := (rfl)
theorem p_reprI (h : i.natAbs < 2 ^ 1920) : reprV [.int i] = some (.str (toString i)) := if_pos (log2_lt h (by decide))
@[simp] theorem p_append : appendV l [d] = if l.length < 100000 then some (.non, l ++ [d]) else none := (rfl)
@[simp] theorem p_extend : extendV l [.lst r] = if l.length + r.length ≤ 100000 then some (.non, l ++ r) else none := (rfl)
@[simp] theorem p_pop : popV l [] = (l[l.length - 1]?).map fun w => (w, l.dropLast) := (rfl)
@[simp] theorem p_popI : popV l [.int i] = if 0 ≤ i ∧ i < 100000 then (l[i.toNat]?).map fun w => (w, l.eraseIdx i.toNat) else none := (rfl)
@[simp] theorem f_non : D.flat .non = true := (rfl)
@[simp] theorem f_bl : D.flat (.bl b) = true := (rfl)
@[simp] theorem f_int : D.flat (.int i) = true := (rfl)
@[simp] theorem f_str : D.flat (.str x) = true := (rfl)
@[simp] theorem f_tup : D.flat (.tup l) = D.flats l := (rfl)
@[simp] theorem f_nil : D.flats [] = true := (rfl)
@[simp] theorem f_cons : D.flats (d :: l) = (D.flat d && D.flats l) := (rfl)
theorem flats_all : ∀ {l : List D}, (∀ d, d ∈ l → d.flat = true) → D.flats l = true
  | [], _ => rfl
  | d :: l, h => by
    rw [f_cons, h d List.mem_cons_self, flats_all fun d hd => h d (List.mem_cons_of_mem _ hd)]
    rfl
end

/-! ### the drawing -/
/-- a pen -/
def IsPen (l : List D) : Prop := ∃ a b c : Int, l = [.int a, .int b, .int c]
def drawD (a b c n : Int) : List D := if b = 1 then [.int (a / n), .int b, .int c] else [.int a, .int b, .int (nxI (nxI c + 7))]
end Nw
set_option Elab.async false
set_option linter.all false
set_option maxRecDepth 100000
set_option maxHeartbeats 0
namespace Nw.K17
open PySem PySem.Spec PyProof.Rows L2
def top (i : Nat) : Stmt := PySem.Challenge.pw_noshortring_k17_bounds_by_growth.main.body.getD i (.Pass ⟨0, 0, 0, 0⟩)
def errPl : List Str := ["RingError", "NoPlace", "NoNumber", "NoLine", "NoRing", "NotEven"]
def errIni : List Str := ["NoWeb", "NoText", "TooGreat"]
/-- what the text binds -/
structure Txt (K : PySem.W.Frag) (mg : Str → Option Value) : Prop where
  f_isinstance : mg "isinstance" = none
  f_int : mg "int" = none
  f_bool : mg "bool" = none
  i_MOST_PLACES : ∃ t, mg "MOST_PLACES" = some (.int 16 t)
  f_range : mg "range" = none
  f_max : mg "max" = none
  f_len : mg "len" = none
  f_ValueError : mg "ValueError" = none
  f_repr : mg "repr" = none
  errs : Errs K mg errPl errIni
def fx (K : PySem.W.Frag) : Bool := (He.Fa.free "isinstance").ok K && ((He.Fa.free "int").ok K && ((He.Fa.free "bool").ok K && ((He.Fa.int "MOST_PLACES" 16).ok K && ((He.Fa.free "range").ok K && ((He.Fa.free "max").ok K && ((He.Fa.free "len").ok K && ((He.Fa.free "ValueError").ok K && ((He.Fa.free "repr").ok K && (errB K errPl errIni && ((He.Fa.glo "is_whole").ok K && ((He.Fa.glo "is_upto").ok K && ((He.Fa.glo "check_number").ok K && ((He.Fa.glo "check_wanted").ok K && ((He.Fa.glo "grown").ok K && ((He.Fa.glo "least_by_growth").ok K && ((He.Fa.glo "least_fit").ok K && ((He.Fa.glo "_law_cell_at").ok K && ((He.Fa.glo "_law_next").ok K && ((He.Fa.glo "_law_pen_of").ok K && ((He.Fa.glo "_law_draw").ok K && ((He.Fa.glo "_law_whole").ok K && ((He.Fa.glo "_law_kind_of").ok K && ((He.Fa.glo "_law_grown").ok K && ((He.Fa.glo "_law_told").ok K && ((He.Fa.glo "law").ok K)))))))))))))))))))))))))
structure Glo (K : PySem.W.Frag) (mg : Str → Option Value) : Prop where
  g_P_is_whole : mg "is_whole" = some (.ref (He.ga K "is_whole"))
  g_P_is_upto : mg "is_upto" = some (.ref (He.ga K "is_upto"))
  g_P_check_number : mg "check_number" = some (.ref (He.ga K "check_number"))
  g_P_check_wanted : mg "check_wanted" = some (.ref (He.ga K "check_wanted"))
  g_P_grown : mg "grown" = some (.ref (He.ga K "grown"))
  g_P_least_by_growth : mg "least_by_growth" = some (.ref (He.ga K "least_by_growth"))
  g_P_least_fit : mg "least_fit" = some (.ref (He.ga K "least_fit"))
  g_L_cell_at : mg "_law_cell_at" = some (.ref (He.ga K "_law_cell_at"))
  g_L_next : mg "_law_next" = some (.ref (He.ga K "_law_next"))
  g_L_pen_of : mg "_law_pen_of" = some (.ref (He.ga K "_law_pen_of"))
  g_L_draw : mg "_law_draw" = some (.ref (He.ga K "_law_draw"))
  g_L_whole : mg "_law_whole" = some (.ref (He.ga K "_law_whole"))
  g_L_kind_of : mg "_law_kind_of" = some (.ref (He.ga K "_law_kind_of"))
  g_L_grown : mg "_law_grown" = some (.ref (He.ga K "_law_grown"))
  g_L_told : mg "_law_told" = some (.ref (He.ga K "_law_told"))
  g_L_law : mg "law" = some (.ref (He.ga K "law"))
theorem txt_of {K : PySem.W.Frag} {h : Heap} {mg : Str → Option Value} (X : K.In h) (G : h.Ns mainGlobals mg) (c : fx K = true) : Txt K mg ∧ Glo K mg := by
  obtain ⟨c0, c⟩ := Bool.and_eq_true_iff.mp c
  obtain ⟨c1, c⟩ := Bool.and_eq_true_iff.mp c
  obtain ⟨c2, c⟩ := Bool.and_eq_true_iff.mp c
  obtain ⟨c3, c⟩ := Bool.and_eq_true_iff.mp c
  obtain ⟨c4, c⟩ := Bool.and_eq_true_iff.mp c
  obtain ⟨c5, c⟩ := Bool.and_eq_true_iff.mp c
  obtain ⟨c6, c⟩ := Bool.and_eq_true_iff.mp c
  obtain ⟨c7, c⟩ := Bool.and_eq_true_iff.mp c
  obtain ⟨c8, c⟩ := Bool.and_eq_true_iff.mp c
  obtain ⟨c9, c⟩ := Bool.and_eq_true_iff.mp c
  obtain ⟨c10, c⟩ := Bool.and_eq_true_iff.mp c
  obtain ⟨c11, c⟩ := Bool.and_eq_true_iff.mp c
  obtain ⟨c12, c⟩ := Bool.and_eq_true_iff.mp c
  obtain ⟨c13, c⟩ := Bool.and_eq_true_iff.mp c
  obtain ⟨c14, c⟩ := Bool.and_eq_true_iff.mp c
  obtain ⟨c15, c⟩ := Bool.and_eq_true_iff.mp c
  obtain ⟨c16, c⟩ := Bool.and_eq_true_iff.mp c
  obtain ⟨c17, c⟩ := Bool.and_eq_true_iff.mp c
  obtain ⟨c18, c⟩ := Bool.and_eq_true_iff.mp c
  obtain ⟨c19, c⟩ := Bool.and_eq_true_iff.mp c
  obtain ⟨c20, c⟩ := Bool.and_eq_true_iff.mp c
  obtain ⟨c21, c⟩ := Bool.and_eq_true_iff.mp c
  obtain ⟨c22, c⟩ := Bool.and_eq_true_iff.mp c
  obtain ⟨c23, c⟩ := Bool.and_eq_true_iff.mp c
  obtain ⟨c24, c⟩ := Bool.and_eq_true_iff.mp c
  exact ⟨⟨He.free_ok X G c0, He.free_ok X G c1, He.free_ok X G c2, He.int_ok X G c3, He.free_ok X G c4, He.free_ok X G c5, He.free_ok X G c6, He.free_ok X G c7, He.free_ok X G c8, Errs.of X G c9⟩, ⟨He.glo_ok X G c10, He.glo_ok X G c11, He.glo_ok X G c12, He.glo_ok X G c13, He.glo_ok X G c14, He.glo_ok X G c15, He.glo_ok X G c16, He.glo_ok X G c17, He.glo_ok X G c18, He.glo_ok X G c19, He.glo_ok X G c20, He.glo_ok X G c21, He.glo_ok X G c22, He.glo_ok X G c23, He.glo_ok X G c24, He.glo_ok X G c⟩⟩
def wholeD : D → Bool
  | .int _ => true
  | _ => false
def uptoD (d : D) (lo hi : Int) : Bool := match d with
  | .int i => decide (lo ≤ i) && decide (i ≤ hi)
  | _ => false
/-- no function, no exception -/
def plainD : D → Bool
  | .fn _ => false
  | .exv _ _ => false
  | _ => true

abbrev st_P_is_whole : Stmt := top 12
abbrev N_P_is_whole : List Str := ["thing"]
theorem sc_P_is_whole : FnScope N_P_is_whole ["thing"] (defScope st_P_is_whole) := ⟨rfl, rfl, rfl, by decide +kernel, rfl, by decide +kernel, by decide +kernel⟩
def B_P_is_whole : DS := (sRet ((dAndV (dIsi .int (dVar 0)) (dNotV (dIsi .bool (dVar 0))))))
def R_P_is_whole : Den := runD 1 B_P_is_whole
abbrev S_P_is_whole : Den := R_P_is_whole
theorem se_P_is_whole : ∀ ws m, S_P_is_whole ws m ≠ .bad → R_P_is_whole ws m = S_P_is_whole ws m := fun _ _ _ => rfl
def V_P_is_whole : VS := (vRetO ((vAndV (vIsi .int (vVar 0)) (vNotV (vIsi .bool (vVar 0))))))
def F_P_is_whole : FD := defV 1 1 V_P_is_whole
theorem q_P_is_whole : FQ S_P_is_whole F_P_is_whole := fq_of (u := B_P_is_whole) (s := V_P_is_whole) (by decide) (by
  unfold B_P_is_whole V_P_is_whole
  exact (sq_retO ((q_andV (q_isi (q_var 0)) (q_notV (q_isi (q_var 0)))))))
theorem f_P_is_whole {d : D} (h : plainD d = true) : F_P_is_whole [d] = .ok (.bl (wholeD d)) := by
  cases d <;> first | rfl | cases h

abbrev st_P_is_upto : Stmt := top 13
abbrev N_P_is_upto : List Str := ["thing", "low", "high"]
theorem sc_P_is_upto : FnScope N_P_is_upto ["thing", "low", "high"] (defScope st_P_is_upto) := ⟨rfl, rfl, rfl, by decide +kernel, rfl, by decide +kernel, by decide +kernel⟩
def B_P_is_upto : DS := (sRet ((dAndV (dCall 1 S_P_is_whole (dCons (dVar 0) dNil)) (dChn leW leW (dVar 1) (dVar 0) (dVar 2)))))
def R_P_is_upto : Den := runD 3 B_P_is_upto
abbrev S_P_is_upto : Den := R_P_is_upto
theorem se_P_is_upto : ∀ ws m, S_P_is_upto ws m ≠ .bad → R_P_is_upto ws m = S_P_is_upto ws m := fun _ _ _ => rfl
def V_P_is_upto : VS := (vRetO ((vAndV (vCall 1 F_P_is_whole (vCons (vVar 0) vNil)) (vChn leV leV (vVar 1) (vVar 0) (vVar 2)))))
def F_P_is_upto : FD := defV 3 3 V_P_is_upto
theorem q_P_is_upto : FQ S_P_is_upto F_P_is_upto := fq_of (u := B_P_is_upto) (s := V_P_is_upto) (by decide) (by
  unfold B_P_is_upto V_P_is_upto
  exact (sq_retO ((q_andV (q_call q_P_is_whole (q_cons (q_var 0) q_nil)) (q_chn q_leW q_leW (q_var 1) (q_var 0) (q_var 2))))))
theorem f_P_is_upto {d : D} {lo hi : Int} (h : plainD d = true) : F_P_is_upto [d, .int lo, .int hi] = .ok (.bl (uptoD d lo hi)) := by
  cases d with
  | int i =>
    by_cases h1 : lo ≤ i
    · by_cases h2 : i ≤ hi <;> simp [F_P_is_upto, V_P_is_upto, f_P_is_whole h, wholeD, uptoD, h1, h2]
    · simp [F_P_is_upto, V_P_is_upto, f_P_is_whole h, wholeD, uptoD, h1]
  | fn x => cases h
  | exv c a => cases h
  | _ => simp [F_P_is_upto, V_P_is_upto, f_P_is_whole h, wholeD, uptoD]

abbrev st_P_check_number : Stmt := top 14
abbrev N_P_check_number : List Str := ["thing", "low", "high"]
theorem sc_P_check_number : FnScope N_P_check_number ["thing", "low", "high"] (defScope st_P_check_number) := ⟨rfl, rfl, rfl, by decide +kernel, rfl, by decide +kernel, by decide +kernel⟩
def B_P_check_number : DS := (sIf (dNot (dTru (dCall 3 S_P_is_upto (dCons (dVar 0) (dCons (dVar 1) (dCons (dVar 2) dNil)))))) (sRaise0 "NoNumber") sNext)
def R_P_check_number : Den := runD 3 B_P_check_number
abbrev S_P_check_number : Den := R_P_check_number
theorem se_P_check_number : ∀ ws m, S_P_check_number ws m ≠ .bad → R_P_check_number ws m = S_P_check_number ws m := fun _ _ _ => rfl
def V_P_check_number : VS := (vIfS (vNot (vTru (vCall 3 F_P_is_upto (vCons (vVar 0) (vCons (vVar 1) (vCons (vVar 2) vNil)))))) (vRaise0 "NoNumber") vNext)
def F_P_check_number : FD := defV 3 3 V_P_check_number
theorem q_P_check_number : FQ S_P_check_number F_P_check_number := fq_of (u := B_P_check_number) (s := V_P_check_number) (by decide) (by
  unfold B_P_check_number V_P_check_number
  exact (sq_if (q_not (q_tru (q_call q_P_is_upto (q_cons (q_var 0) (q_cons (q_var 1) (q_cons (q_var 2) q_nil)))))) (sq_raise0 _) sq_next))
theorem f_P_check_number {d : D} {lo hi : Int} (h : plainD d = true) : F_P_check_number [d, .int lo, .int hi] = if uptoD d lo hi = true then .ok .non else .exc "NoNumber" [] := by
  by_cases c : uptoD d lo hi = true <;> simp [F_P_check_number, V_P_check_number, f_P_is_upto h, c]

abbrev st_P_check_wanted : Stmt := top 16
abbrev N_P_check_wanted : List Str := ["d", "g"]
theorem sc_P_check_wanted : FnScope N_P_check_wanted ["d", "g"] (defScope st_P_check_wanted) := ⟨rfl, rfl, rfl, by decide +kernel, rfl, by decide +kernel, by decide +kernel⟩
def B_P_check_wanted : DS := (sSeq (sExpr (dCall 3 S_P_check_number (dCons (dVar 0) (dCons (dC (.int 2)) (dCons (dOp subW (dC (.int 16)) (dC (.int 1))) dNil)))))
    (sExpr (dCall 3 S_P_check_number (dCons (dVar 1) (dCons (dC (.int 3)) (dCons (dC (.int 16)) dNil))))))
def R_P_check_wanted : Den := runD 2 B_P_check_wanted
abbrev S_P_check_wanted : Den := R_P_check_wanted
theorem se_P_check_wanted : ∀ ws m, S_P_check_wanted ws m ≠ .bad → R_P_check_wanted ws m = S_P_check_wanted ws m := fun _ _ _ => rfl
def V_P_check_wanted : VS := (vSeq (vExpr (vCall 3 F_P_check_number (vCons (vVar 0) (vCons (vC (.int 2)) (vCons (vOp subV (vC (.int 16)) (vC (.int 1))) vNil)))))
    (vExpr (vCall 3 F_P_check_number (vCons (vVar 1) (vCons (vC (.int 3)) (vCons (vC (.int 16)) vNil))))))
def F_P_check_wanted : FD := defV 2 2 V_P_check_wanted
theorem q_P_check_wanted : FQ S_P_check_wanted F_P_check_wanted := fq_of (u := B_P_check_wanted) (s := V_P_check_wanted) (by decide) (by
  unfold B_P_check_wanted V_P_check_wanted
  exact (sq_seq (sq_expr (q_call q_P_check_number (q_cons (q_var 0) (q_cons (q_c fun _ _ => .int _) (q_cons (q_op q_subW (q_c fun _ _ => .int _) (q_c fun _ _ => .int _)) q_nil)))))
    (sq_expr (q_call q_P_check_number (q_cons (q_var 1) (q_cons (q_c fun _ _ => .int _) (q_cons (q_c fun _ _ => .int _) q_nil)))))))
abbrev st_P_grown : Stmt := top 17
abbrev N_P_grown : List Str := ["d", "g", "many", "layer", "turn"]
theorem sc_P_grown : FnScope N_P_grown ["d", "g"] (defScope st_P_grown) := ⟨rfl, rfl, rfl, by decide +kernel, rfl, by decide +kernel, by decide +kernel⟩
def B_P_grown : DS := (sSeq (sSet (dC (.int 0)) (gNam 2))
    (sSeq (sSet (dC (.int 1)) (gNam 3))
    (sSeq (sFor (dRng1 (dCons (dOp fdivW (dVar 1) (dC (.int 2))) dNil)) (gNam 4) (sSeq (sAug 2 (int2 fun p q => some (.int (p + q))) (dVar 3))
      (sSet (dOp mulW (dVar 3) (dOp subW (dVar 0) (dC (.int 1)))) (gNam 3))))
    (sSeq (sIf (dTst (dOp eqW (dOp modW (dVar 1) (dC (.int 2))) (dC (.int 1)))) (sRet (dOp addW (dC (.int 1)) (dOp mulW (dVar 0) (dVar 2)))) sNext)
    (sRet (dOp mulW (dC (.int 2)) (dVar 2)))))))
def R_P_grown : Den := runD 5 B_P_grown
abbrev S_P_grown : Den := R_P_grown
theorem se_P_grown : ∀ ws m, S_P_grown ws m ≠ .bad → R_P_grown ws m = S_P_grown ws m := fun _ _ _ => rfl
def V_P_grown : VS := (vSeq (vSet (vC (.int 0)) (vgN 2))
    (vSeq (vSet (vC (.int 1)) (vgN 3))
    (vSeq (vFor (vRng1 (vCons (vOp fdivV (vVar 1) (vC (.int 2))) vNil)) (vgN 4) (vSeq (vAug 2 (int2V fun p q => some (.int (p + q))) (vVar 3))
      (vSet (vOp mulV (vVar 3) (vOp subV (vVar 0) (vC (.int 1)))) (vgN 3))))
    (vSeq (vIfS (vTst (vOp eqV (vOp modV (vVar 1) (vC (.int 2))) (vC (.int 1)))) (vRetO (vOp addV (vC (.int 1)) (vOp mulV (vVar 0) (vVar 2)))) vNext)
    (vRetO (vOp mulV (vC (.int 2)) (vVar 2)))))))
def F_P_grown : FD := defV 2 5 V_P_grown
theorem q_P_grown : FQ S_P_grown F_P_grown := fq_of (u := B_P_grown) (s := V_P_grown) (by decide) (by
  unfold B_P_grown V_P_grown
  exact (sq_seq (sq_set (q_c fun _ _ => .int _) (g_nam 2))
    (sq_seq (sq_set (q_c fun _ _ => .int _) (g_nam 3))
    (sq_seq (sq_for (q_rng1 (q_cons (q_op q_fdivW (q_var 1) (q_c fun _ _ => .int _)) q_nil)) (g_nam 4) (sq_seq (sq_aug (q_int2 _) (q_var 3))
      (sq_set (q_op q_mulW (q_var 3) (q_op q_subW (q_var 0) (q_c fun _ _ => .int _))) (g_nam 3))))
    (sq_seq (sq_if (q_tst (q_op q_eqW (q_op q_modW (q_var 1) (q_c fun _ _ => .int _)) (q_c fun _ _ => .int _))) (sq_retO (q_op q_addW (q_c fun _ _ => .int _) (q_op q_mulW (q_var 0) (q_var 2)))) sq_next)
    (sq_retO (q_op q_mulW (q_c fun _ _ => .int _) (q_var 2))))))))
abbrev st_P_least_by_growth : Stmt := top 18
abbrev N_P_least_by_growth : List Str := ["d", "g"]
theorem sc_P_least_by_growth : FnScope N_P_least_by_growth ["d", "g"] (defScope st_P_least_by_growth) := ⟨rfl, rfl, rfl, by decide +kernel, rfl, by decide +kernel, by decide +kernel⟩
def B_P_least_by_growth : DS := (sSeq (sExpr (dCall 2 S_P_check_wanted (dCons (dVar 0) (dCons (dVar 1) dNil))))
    (sRet (dCall 2 S_P_grown (dCons (dVar 0) (dCons (dVar 1) dNil)))))
def R_P_least_by_growth : Den := runD 2 B_P_least_by_growth
abbrev S_P_least_by_growth : Den := R_P_least_by_growth
theorem se_P_least_by_growth : ∀ ws m, S_P_least_by_growth ws m ≠ .bad → R_P_least_by_growth ws m = S_P_least_by_growth ws m := fun _ _ _ => rfl
def V_P_least_by_growth : VS := (vSeq (vExpr (vCall 2 F_P_check_wanted (vCons (vVar 0) (vCons (vVar 1) vNil))))
    (vRetO (vCall 2 F_P_grown (vCons (vVar 0) (vCons (vVar 1) vNil)))))
def F_P_least_by_growth : FD := defV 2 2 V_P_least_by_growth
theorem q_P_least_by_growth : FQ S_P_least_by_growth F_P_least_by_growth := fq_of (u := B_P_least_by_growth) (s := V_P_least_by_growth) (by decide) (by
  unfold B_P_least_by_growth V_P_least_by_growth
  exact (sq_seq (sq_expr (q_call q_P_check_wanted (q_cons (q_var 0) (q_cons (q_var 1) q_nil))))
    (sq_retO (q_call q_P_grown (q_cons (q_var 0) (q_cons (q_var 1) q_nil))))))
abbrev st_P_least_fit : Stmt := top 19
abbrev N_P_least_fit : List Str := ["d", "g", "many"]
theorem sc_P_least_fit : FnScope N_P_least_fit ["d", "g"] (defScope st_P_least_fit) := ⟨rfl, rfl, rfl, by decide +kernel, rfl, by decide +kernel, by decide +kernel⟩
def B_P_least_fit : DS := (sSeq (sExpr (dCall 2 S_P_check_wanted (dCons (dVar 0) (dCons (dVar 1) dNil))))
    (sSeq (sSet (dCB max2W (dCons (dCall 2 S_P_grown (dCons (dVar 0) (dCons (dVar 1) dNil))) (dCons (dOp addW (dVar 0) (dC (.int 1))) dNil))) (gNam 2))
    (sRet (dOp addW (dVar 2) (dOp modW (dOp mulW (dVar 2) (dVar 0)) (dC (.int 2)))))))
def R_P_least_fit : Den := runD 3 B_P_least_fit
abbrev S_P_least_fit : Den := R_P_least_fit
theorem se_P_least_fit : ∀ ws m, S_P_least_fit ws m ≠ .bad → R_P_least_fit ws m = S_P_least_fit ws m := fun _ _ _ => rfl
def V_P_least_fit : VS := (vSeq (vExpr (vCall 2 F_P_check_wanted (vCons (vVar 0) (vCons (vVar 1) vNil))))
    (vSeq (vSet (vCB max2V (vCons (vCall 2 F_P_grown (vCons (vVar 0) (vCons (vVar 1) vNil))) (vCons (vOp addV (vVar 0) (vC (.int 1))) vNil))) (vgN 2))
    (vRetO (vOp addV (vVar 2) (vOp modV (vOp mulV (vVar 2) (vVar 0)) (vC (.int 2)))))))
def F_P_least_fit : FD := defV 2 3 V_P_least_fit
theorem q_P_least_fit : FQ S_P_least_fit F_P_least_fit := fq_of (u := B_P_least_fit) (s := V_P_least_fit) (by decide) (by
  unfold B_P_least_fit V_P_least_fit
  exact (sq_seq (sq_expr (q_call q_P_check_wanted (q_cons (q_var 0) (q_cons (q_var 1) q_nil))))
    (sq_seq (sq_set (q_cb q_max2W (q_cons (q_call q_P_grown (q_cons (q_var 0) (q_cons (q_var 1) q_nil))) (q_cons (q_op q_addW (q_var 0) (q_c fun _ _ => .int _)) q_nil))) (g_nam 2))
    (sq_retO (q_op q_addW (q_var 2) (q_op q_modW (q_op q_mulW (q_var 2) (q_var 0)) (q_c fun _ _ => .int _)))))))
abbrev st_L_cell_at : Stmt := top 21
abbrev N_L_cell_at : List Str := ["_law_script", "_law_k"]
theorem sc_L_cell_at : FnScope N_L_cell_at ["_law_script", "_law_k"] (defScope st_L_cell_at) := ⟨rfl, rfl, rfl, by decide +kernel, rfl, by decide +kernel, by decide +kernel⟩
def B_L_cell_at : DS := (sSeq (sIf (dTst (dOp ltW (dVar 1) (dCB lenW (dCons (dVar 0) dNil)))) (sRet (dOp ixW (dVar 0) (dVar 1))) sNext)
    (sRet (dC (.int 0))))
def R_L_cell_at : Den := runD 2 B_L_cell_at
abbrev S_L_cell_at : Den := R_L_cell_at
theorem se_L_cell_at : ∀ ws m, S_L_cell_at ws m ≠ .bad → R_L_cell_at ws m = S_L_cell_at ws m := fun _ _ _ => rfl
def V_L_cell_at : VS := (vSeq (vIfS (vTst (vOp ltV (vVar 1) (vCB lenV (vCons (vVar 0) vNil)))) (vRetO (vOp ixV (vVar 0) (vVar 1))) vNext)
    (vRetO (vC (.int 0))))
def F_L_cell_at : FD := defV 2 2 V_L_cell_at
theorem q_L_cell_at : FQ S_L_cell_at F_L_cell_at := fq_of (u := B_L_cell_at) (s := V_L_cell_at) (by decide) (by
  unfold B_L_cell_at V_L_cell_at
  exact (sq_seq (sq_if (q_tst (q_op q_ltW (q_var 1) (q_cb q_lenW (q_cons (q_var 0) q_nil)))) (sq_retO (q_op q_ixW (q_var 0) (q_var 1))) sq_next)
    (sq_retO (q_c fun _ _ => .int _))))
theorem f_L_cell_at (ns : List Int) (k : Nat) : F_L_cell_at [.fro (ns.map D.int), .int k] = .ok (.int (ns.getD k 0)) := by
  by_cases c : k < ns.length
  · have c2 : (k : Int) < ns.length := by omega
    simp [F_L_cell_at, V_L_cell_at, c2, p_at, c, List.getD]
  · have c2 : ¬ (k : Int) < ns.length := by omega
    have c3 : ns[k]? = none := List.getElem?_eq_none (by omega)
    simp [F_L_cell_at, V_L_cell_at, c2, c3, List.getD]
/-- the cells that a law goes through -/
theorem cells_of {ns : List Int} {k : Int} {v : VEnv} {o : OEnv} (h : ns.length ≤ 63) (hv : v[0]? = some (some (.fro (ns.map D.int)))) :
    ∃ cs : List Int, vIs (vOp addV (vCB lstV (vCons (vCall 2 F_L_cell_at (vCons (vVar 0) (vCons (vC (.int 0)) vNil))) vNil)) (vSl (vVar 0) (vAt (vC (.int 1))) (vAt (vC (.int k))))) v o = .ok (cs.map D.int) := by
  have c0 := f_L_cell_at ns 0
  have c0 : F_L_cell_at [.fro (ns.map D.int), .int 0] = .ok (.int (ns.getD 0 0)) := c0
  have hc : cutD (ns.map D.int) (some 1) (some k) = ((ns.drop (HT.sIx ns.length 0 (some 1))).take (HT.sIx ns.length ns.length (some k) - HT.sIx ns.length 0 (some 1))).map D.int := by
    unfold cutD
    rw [List.length_map, List.map_take, List.map_drop]
  have hl : ((ns.drop (HT.sIx ns.length 0 (some 1))).take (HT.sIx ns.length ns.length (some k) - HT.sIx ns.length 0 (some 1))).length ≤ 63 := by
    rw [List.length_take, List.length_drop]
    omega
  generalize (ns.drop (HT.sIx ns.length 0 (some 1))).take (HT.sIx ns.length ns.length (some k) - HT.sIx ns.length 0 (some 1)) = L at hc hl
  refine ⟨ns.getD 0 0 :: L, ?_⟩
  have hl2 : 1 + L.length ≤ 100000 := by omega
  simp only [w_is, w_op, w_cb, w_cons, w_call, w_var, hv, w_gtV, w_c, w_nil, r_bind_ok, List.length_cons, List.length_nil, c0, p_lst, w_sl, w_at, w_at', p_slF, r_ofO, p_addL, hc]
  simp [hl2]

abbrev st_L_next : Stmt := top 22
abbrev N_L_next : List Str := ["_law_seed"]
theorem sc_L_next : FnScope N_L_next ["_law_seed"] (defScope st_L_next) := ⟨rfl, rfl, rfl, by decide +kernel, rfl, by decide +kernel, by decide +kernel⟩
def B_L_next : DS := (sSeq (sSet (dOp modW (dOp addW (dVar 0) (dC (.int 7919))) (dC (.int 2147483647))) (gNam 0))
    (sRet (dOp modW (dOp addW (dOp addW (dOp mulW (dVar 0) (dVar 0)) (dOp mulW (dC (.int 48271)) (dVar 0))) (dC (.int 12345))) (dC (.int 2147483629)))))
def R_L_next : Den := runD 1 B_L_next
abbrev S_L_next : Den := R_L_next
theorem se_L_next : ∀ ws m, S_L_next ws m ≠ .bad → R_L_next ws m = S_L_next ws m := fun _ _ _ => rfl
def V_L_next : VS := (vSeq (vSet (vOp modV (vOp addV (vVar 0) (vC (.int 7919))) (vC (.int 2147483647))) (vgN 0))
    (vRetO (vOp modV (vOp addV (vOp addV (vOp mulV (vVar 0) (vVar 0)) (vOp mulV (vC (.int 48271)) (vVar 0))) (vC (.int 12345))) (vC (.int 2147483629)))))
def F_L_next : FD := defV 1 1 V_L_next
theorem q_L_next : FQ S_L_next F_L_next := fq_of (u := B_L_next) (s := V_L_next) (by decide) (by
  unfold B_L_next V_L_next
  exact (sq_seq (sq_set (q_op q_modW (q_op q_addW (q_var 0) (q_c fun _ _ => .int _)) (q_c fun _ _ => .int _)) (g_nam 0))
    (sq_retO (q_op q_modW (q_op q_addW (q_op q_addW (q_op q_mulW (q_var 0) (q_var 0)) (q_op q_mulW (q_c fun _ _ => .int _) (q_var 0))) (q_c fun _ _ => .int _)) (q_c fun _ _ => .int _)))))
theorem f_L_next {s : Int} : F_L_next [.int s] = .ok (.int (nxI s)) := by
  have h1 := Int.emod_nonneg (s + 7919) (show (2147483647 : Int) ≠ 0 by decide)
  have h2 := Int.emod_lt_of_pos (s + 7919) (show (0 : Int) < 2147483647 by decide)
  have g1 : -big < (s + 7919) % 2147483647 := Int.lt_of_lt_of_le (by decide) h1
  have g2 : (s + 7919) % 2147483647 < big := Int.lt_trans h2 (by decide)
  simp (decide := true) [F_L_next, V_L_next, nxI, g1, g2]

abbrev st_L_pen_of : Stmt := top 23
abbrev N_L_pen_of : List Str := ["_law_cell", "_law_left"]
theorem sc_L_pen_of : FnScope N_L_pen_of ["_law_cell"] (defScope st_L_pen_of) := ⟨rfl, rfl, rfl, by decide +kernel, rfl, by decide +kernel, by decide +kernel⟩
def B_L_pen_of : DS := (sSeq (sSet (dCB max2W (dCons (dVar 0) (dCons (dOp subW (dC (.int 0)) (dVar 0)) dNil))) (gNam 1))
    (sRet (dCB lstW (dCons (dVar 1) (dCons (dCB intW (dCons (dOp geW (dVar 1) (dOp powW (dC (.int 10)) (dC (.int 18)))) dNil)) (dCons (dOp modW (dVar 1) (dC (.int 1000003))) dNil))))))
def R_L_pen_of : Den := runD 2 B_L_pen_of
def S_L_pen_of : Den := fun ws m => match ws with
  | [.int c] => .ok (.ref m.length) (m ++ [.lst (penL c)])
  | _ => .bad
theorem se_L_pen_of : ∀ ws m, S_L_pen_of ws m ≠ .bad → R_L_pen_of ws m = S_L_pen_of ws m := by
  intro ws m h
  unfold S_L_pen_of at h
  split at h
  · rename_i c
    simp (decide := true) [R_L_pen_of, s_run, B_L_pen_of, S_L_pen_of, penL, absI]
  · exact absurd rfl h
@[simp] theorem v_L_pen_of {c : Int} {m : Mem} : S_L_pen_of [.int c] m = .ok (.ref m.length) (m ++ [.lst (penL c)]) := (rfl)

def penD (c : Int) : List D := [.int (absI c), .int (if 10 ^ 18 ≤ absI c then 1 else 0), .int (absI c % 1000003)]
def F_L_pen_of : FD := fun ds => match ds with
  | [.int c] => .ok (.lst (penD c))
  | _ => .bad

theorem q_L_pen_of : FF S_L_pen_of F_L_pen_of := fun A m ws ds hb h => by
  cases h with
  | nil => trivial
  | cons h1 h2 => cases h2 with
    | cons _ _ => cases h1 <;> trivial
    | nil => cases h1 with
      | int c => exact ⟨m.length, [.lst (penL c)], penL c, rfl, Nat.le_refl _, get_new, .cons (.int _) (.cons (.int _) (.cons (.int _) .nil))⟩
      | _ => trivial

theorem pen_of (c : Int) : IsPen (penD c) := ⟨_, _, _, rfl⟩
theorem f_L_pen_of {c : Int} : F_L_pen_of [.int c] = .ok (.lst (penD c)) := (rfl)

abbrev st_L_draw : Stmt := top 24
abbrev N_L_draw : List Str := ["_law_pen", "_law_many", "_law_found"]
theorem sc_L_draw : FnScope N_L_draw ["_law_pen", "_law_many"] (defScope st_L_draw) := ⟨rfl, rfl, rfl, by decide +kernel, rfl, by decide +kernel, by decide +kernel⟩
def B_L_draw : DS := (sSeq (sIf (dTst (dOp eqW (dOp ixW (dVar 0) (dC (.int 1))) (dC (.int 1)))) (sSeq (sSet (dOp modW (dOp ixW (dVar 0) (dC (.int 0))) (dVar 1)) (gNam 2))
      (sSeq (sSet (dOp fdivW (dOp ixW (dVar 0) (dC (.int 0))) (dVar 1)) (gSb (dVar 0) (dC (.int 0))))
      (sRet (dVar 2)))) sNext)
    (sSeq (sSet (dCall 1 S_L_next (dCons (dOp addW (dCall 1 S_L_next (dCons (dOp ixW (dVar 0) (dC (.int 2))) dNil)) (dC (.int 7))) dNil)) (gSb (dVar 0) (dC (.int 2))))
    (sRet (dOp modW (dOp fdivW (dOp ixW (dVar 0) (dC (.int 2))) (dC (.int 64))) (dVar 1)))))
def R_L_draw : Den := runD 3 B_L_draw
abbrev S_L_draw : Den := R_L_draw
theorem se_L_draw : ∀ ws m, S_L_draw ws m ≠ .bad → R_L_draw ws m = S_L_draw ws m := fun _ _ _ => rfl
def V_L_draw : VS := (vSeq (vIfS (vTst (vOp eqV (vOp ixV (vOwn 0) (vC (.int 1))) (vC (.int 1)))) (vSeq (vSetL (lF (vOp modV (vOp ixV (vOwn 0) (vC (.int 0))) (vVar 1))) (vgN 2))
      (vSeq (vSetIx 0 (lF (vOp fdivV (vOp ixV (vOwn 0) (vC (.int 0))) (vVar 1))) (lQ (vC (.int 0))))
      (vRet (vVar 2)))) vNext)
    (vSeq (vSetIx 0 (lF (vCall 1 F_L_next (vCons (vOp addV (vCall 1 F_L_next (vCons (vOp ixV (vOwn 0) (vC (.int 2))) vNil)) (vC (.int 7))) vNil))) (lQ (vC (.int 2))))
    (vRetL (lF (vOp modV (vOp fdivV (vOp ixV (vOwn 0) (vC (.int 2))) (vC (.int 64))) (vVar 1))))))
def F_L_draw : FP := defP 2 3 0 V_L_draw
theorem q_L_draw : FL 0 S_L_draw F_L_draw := fl_of (u := B_L_draw) (s := V_L_draw) (by decide) (by
  unfold B_L_draw V_L_draw
  exact (sq_seq (sq_if (q_tst (q_op q_eqW (q_op q_ixW (q_own 0) (q_c fun _ _ => .int _)) (q_c fun _ _ => .int _))) (sq_seq (sq_setL (l_f (q_op q_modW (q_op q_ixW (q_own 0) (q_c fun _ _ => .int _)) (q_var 1))) (g_nam 2))
      (sq_seq (sq_setIx (l_f (q_op q_fdivW (q_op q_ixW (q_own 0) (q_c fun _ _ => .int _)) (q_var 1))) (l_q (q_c fun _ _ => .int _)))
      (sq_ret (q_var 2)))) sq_next)
    (sq_seq (sq_setIx (l_f (q_call q_L_next (q_cons (q_op q_addW (q_call q_L_next (q_cons (q_op q_ixW (q_own 0) (q_c fun _ _ => .int _)) q_nil)) (q_c fun _ _ => .int _)) q_nil))) (l_q (q_c fun _ _ => .int _)))
    (sq_retL (l_f (q_op q_modW (q_op q_fdivW (q_op q_ixW (q_own 0) (q_c fun _ _ => .int _)) (q_c fun _ _ => .int _)) (q_var 1)))))))
theorem f_L_draw0 {a b c n : Int} (h : 0 < n) (h2 : n < 1073741824) : F_L_draw [.lst [.int a, .int b, .int c], .int n] = .ok (.int (drawV a b c n), drawD a b c n) := by
  by_cases hb : b = 1
  · simp (decide := true) [F_L_draw, defP, runP, V_L_draw, hb, h, h2, penAt, drawV, drawD, ixN, f_L_next]
  · simp (decide := true) [F_L_draw, defP, runP, V_L_draw, hb, h, h2, penAt, drawV, drawD, ixN, f_L_next]
/-- a draw: a number below n, the pen goes on -/
theorem f_L_draw {l : List D} (hl : IsPen l) {n : Int} (h : 0 < n) (h2 : n < 1073741824) : ∃ z l', F_L_draw [.lst l, .int n] = .ok (.int z, l') ∧ 0 ≤ z ∧ z < n ∧ IsPen l' := by
  obtain ⟨a, b, c, rfl⟩ := hl
  refine ⟨_, _, f_L_draw0 h h2, (draw_lt h).1, (draw_lt h).2, ?_⟩
  unfold drawD
  split
  · exact ⟨_, _, _, rfl⟩
  · exact ⟨_, _, _, rfl⟩

abbrev st_L_whole : Stmt := top 25
abbrev N_L_whole : List Str := ["_law_found"]
theorem sc_L_whole : FnScope N_L_whole ["_law_found"] (defScope st_L_whole) := ⟨rfl, rfl, rfl, by decide +kernel, rfl, by decide +kernel, by decide +kernel⟩
def B_L_whole : DS := (sRet ((dAndV (dIsi .int (dVar 0)) (dNotV (dIsi .bool (dVar 0))))))
def R_L_whole : Den := runD 1 B_L_whole
abbrev S_L_whole : Den := R_L_whole
theorem se_L_whole : ∀ ws m, S_L_whole ws m ≠ .bad → R_L_whole ws m = S_L_whole ws m := fun _ _ _ => rfl
def V_L_whole : VS := (vRetO ((vAndV (vIsi .int (vVar 0)) (vNotV (vIsi .bool (vVar 0))))))
def F_L_whole : FD := defV 1 1 V_L_whole
theorem q_L_whole : FQ S_L_whole F_L_whole := fq_of (u := B_L_whole) (s := V_L_whole) (by decide) (by
  unfold B_L_whole V_L_whole
  exact (sq_retO ((q_andV (q_isi (q_var 0)) (q_notV (q_isi (q_var 0)))))))
theorem f_L_whole {d : D} (h : plainD d = true) : F_L_whole [d] = .ok (.bl (wholeD d)) := by
  cases d <;> first | rfl | cases h

abbrev st_L_kind_of : Stmt := top 26
abbrev N_L_kind_of : List Str := ["_law_e", "_law_marks"]
theorem sc_L_kind_of : FnScope N_L_kind_of ["_law_e"] (defScope st_L_kind_of) := ⟨rfl, rfl, rfl, by decide +kernel, rfl, by decide +kernel, by decide +kernel⟩
def B_L_kind_of : DS := (sSeq (sSet (dCB lstW (dCons (dIse errPl errIni "NoPlace" (dVar 0)) (dCons (dIse errPl errIni "NoNumber" (dVar 0)) (dCons (dIse errPl errIni "NoLine" (dVar 0)) (dCons (dIse errPl errIni "NoRing" (dVar 0)) dNil))))) (gNam 1))
    (sSeq (sSet (dOp addW (dVar 1) (dCB lstW (dCons (dIse errPl errIni "NotEven" (dVar 0)) (dCons (dIse errPl errIni "NoWeb" (dVar 0)) (dCons (dIse errPl errIni "NoText" (dVar 0)) (dCons (dIse errPl errIni "TooGreat" (dVar 0)) dNil)))))) (gNam 1))
    (sSeq (sIf ((dOr (dNot (dTru (dIse errPl errIni "ValueError" (dVar 0)))) (dTst (dOp neW (dBM .list countW (dVar 1) (dCons (dC (.bl true)) dNil)) (dC (.int 1)))))) (sRet (dC (.str "other"))) sNext)
    (sRet (dOp ixW (dCB lstW (dCons (dC (.str "place")) (dCons (dC (.str "number")) (dCons (dC (.str "line")) (dCons (dC (.str "ring")) (dCons (dC (.str "even")) (dCons (dC (.str "web")) (dCons (dC (.str "text")) (dCons (dC (.str "great")) dNil))))))))) (dBM .list indexW (dVar 1) (dCons (dC (.bl true)) dNil)))))))
def R_L_kind_of : Den := runD 2 B_L_kind_of
def S_L_kind_of : Den := fun ws m => match ws with
  | [.exv c _] => if c ∈ errPl ++ errIni then .ok (.str (kindS c)) (m ++ kindM c) else .bad
  | _ => .bad
theorem se_L_kind_of : ∀ ws m, S_L_kind_of ws m ≠ .bad → R_L_kind_of ws m = S_L_kind_of ws m := by
  intro ws m h
  unfold S_L_kind_of at h
  split at h
  · rename_i c as
    by_cases k : c ∈ errPl ++ errIni
    · unfold S_L_kind_of
      dsimp only
      rw [if_pos k]
      unfold R_L_kind_of
      rw [s_run]
      have k2 := k
      simp only [errPl, errIni, List.cons_append, List.nil_append, List.mem_cons, List.not_mem_nil, or_false] at k2
      rcases k2 with h | h | h | h | h | h | h | h | h <;> subst h <;>
        simp (decide := true) [B_L_kind_of, errPl, errIni, subT, addW, lstOf, indexW, countW, dataOf, seqD, seqAt, SeqAt.shaped, PyData.canLay0, PyData.canLayAll0, PyData.depth, PyData.depthAll, kindS, kindM, List.findIdx?, List.findIdx?.go]
    · rw [if_neg k] at h
      exact absurd rfl h
  · exact absurd rfl h

def F_L_kind_of : FD := fun ds => match ds with
  | [.exv c _] => if c ∈ errPl ++ errIni then .ok (.str (kindS c)) else .bad
  | _ => .bad

theorem q_L_kind_of : FQ S_L_kind_of F_L_kind_of := fun A m ws ds hb h => by
  cases h with
  | nil => trivial
  | cons h1 h2 => cases h2 with
    | cons _ _ => cases h1 <;> trivial
    | nil => cases h1 with
      | @exv c as es _ =>
        show Qo A m (VW A) (if c ∈ errPl ++ errIni then .ok (.str (kindS c)) (m ++ kindM c) else .bad) (if c ∈ errPl ++ errIni then .ok (.str (kindS c)) else .bad)
        by_cases k : c ∈ errPl ++ errIni
        · rw [if_pos k, if_pos k]
          exact ⟨_, _, rfl, .str _⟩
        · rw [if_neg k, if_neg k]
          trivial
      | _ => trivial

abbrev st_L_grown : Stmt := top 27
abbrev N_L_grown : List Str := ["_law_d", "_law_g", "_law_layer", "_law_many", "_law_ends", "_law_turn"]
theorem sc_L_grown : FnScope N_L_grown ["_law_d", "_law_g"] (defScope st_L_grown) := ⟨rfl, rfl, rfl, by decide +kernel, rfl, by decide +kernel, by decide +kernel⟩
def B_L_grown : DS := (sSeq (sPar 2 3 (dCons (dOp ixW (dCB lstW (dCons (dC (.int 1)) (dCons (dC (.int 2)) dNil))) (dOp subW (dC (.int 1)) (dOp modW (dVar 1) (dC (.int 2))))) (dCons (dOp ixW (dCB lstW (dCons (dC (.int 1)) (dCons (dC (.int 2)) dNil))) (dOp subW (dC (.int 1)) (dOp modW (dVar 1) (dC (.int 2))))) dNil)))
    (sSeq (sSet (dIf (dTst (dOp eqW (dOp modW (dVar 1) (dC (.int 2))) (dC (.int 1)))) (dVar 0) (dOp subW (dVar 0) (dC (.int 1)))) (gNam 4))
    (sSeq (sFor (dRng1 (dCons (dOp fdivW (dOp subW (dVar 1) (dC (.int 1))) (dC (.int 2))) dNil)) (gNam 5) (sSeq (sSet (dOp mulW (dVar 2) (dVar 4)) (gNam 2))
      (sSeq (sSet (dOp subW (dVar 0) (dC (.int 1))) (gNam 4))
      (sSet (dOp addW (dVar 3) (dVar 2)) (gNam 3)))))
    (sRet (dVar 3)))))
def R_L_grown : Den := runD 6 B_L_grown
abbrev S_L_grown : Den := R_L_grown
theorem se_L_grown : ∀ ws m, S_L_grown ws m ≠ .bad → R_L_grown ws m = S_L_grown ws m := fun _ _ _ => rfl
def V_L_grown : VS := (vSeq (vPar 2 3 (vCons (vOp ixV (vCB lstV (vCons (vC (.int 1)) (vCons (vC (.int 2)) vNil))) (vOp subV (vC (.int 1)) (vOp modV (vVar 1) (vC (.int 2))))) (vCons (vOp ixV (vCB lstV (vCons (vC (.int 1)) (vCons (vC (.int 2)) vNil))) (vOp subV (vC (.int 1)) (vOp modV (vVar 1) (vC (.int 2))))) vNil)))
    (vSeq (vSet (vIf (vTst (vOp eqV (vOp modV (vVar 1) (vC (.int 2))) (vC (.int 1)))) (vVar 0) (vOp subV (vVar 0) (vC (.int 1)))) (vgN 4))
    (vSeq (vFor (vRng1 (vCons (vOp fdivV (vOp subV (vVar 1) (vC (.int 1))) (vC (.int 2))) vNil)) (vgN 5) (vSeq (vSet (vOp mulV (vVar 2) (vVar 4)) (vgN 2))
      (vSeq (vSet (vOp subV (vVar 0) (vC (.int 1))) (vgN 4))
      (vSet (vOp addV (vVar 3) (vVar 2)) (vgN 3)))))
    (vRetO (vVar 3)))))
def F_L_grown : FD := defV 2 6 V_L_grown
theorem q_L_grown : FQ S_L_grown F_L_grown := fq_of (u := B_L_grown) (s := V_L_grown) (by decide) (by
  unfold B_L_grown V_L_grown
  exact (sq_seq (sq_par (q_cons (q_op q_ixW (q_cb q_lstW (q_cons (q_c fun _ _ => .int _) (q_cons (q_c fun _ _ => .int _) q_nil))) (q_op q_subW (q_c fun _ _ => .int _) (q_op q_modW (q_var 1) (q_c fun _ _ => .int _)))) (q_cons (q_op q_ixW (q_cb q_lstW (q_cons (q_c fun _ _ => .int _) (q_cons (q_c fun _ _ => .int _) q_nil))) (q_op q_subW (q_c fun _ _ => .int _) (q_op q_modW (q_var 1) (q_c fun _ _ => .int _)))) q_nil)))
    (sq_seq (sq_set (q_if (q_tst (q_op q_eqW (q_op q_modW (q_var 1) (q_c fun _ _ => .int _)) (q_c fun _ _ => .int _))) (q_var 0) (q_op q_subW (q_var 0) (q_c fun _ _ => .int _))) (g_nam 4))
    (sq_seq (sq_for (q_rng1 (q_cons (q_op q_fdivW (q_op q_subW (q_var 1) (q_c fun _ _ => .int _)) (q_c fun _ _ => .int _)) q_nil)) (g_nam 5) (sq_seq (sq_set (q_op q_mulW (q_var 2) (q_var 4)) (g_nam 2))
      (sq_seq (sq_set (q_op q_subW (q_var 0) (q_c fun _ _ => .int _)) (g_nam 4))
      (sq_set (q_op q_addW (q_var 3) (q_var 2)) (g_nam 3)))))
    (sq_retO (q_var 3))))))
abbrev st_L_told : Stmt := top 28
abbrev N_L_told : List Str := ["_law_way", "_law_d", "_law_g", "_law_e"]
theorem sc_L_told : FnScope N_L_told ["_law_way", "_law_d", "_law_g"] (defScope st_L_told) := ⟨rfl, rfl, rfl, by decide +kernel, rfl, by decide +kernel, by decide +kernel⟩
def Q_L_told_0 : DS := (sRet (dCall 1 S_L_kind_of (dCons (dVar 3) dNil)))
def G_L_told_0 : Exn → Env → Option (Fl × Mem) := fun e env => if e.cls ∈ errPl ++ errIni ∧ 3 < env.length then some (.rt (.str (kindS e.cls)), kindM e.cls) else none
theorem SG_L_told_0 : ∀ e env m f ex, G_L_told_0 e env = some (f, ex) → e.cls ∈ errPl ++ errIni ∧ SuiteOk Q_L_told_0 3 e env m f ex := fun e env m f ex h => by
  unfold G_L_told_0 at h
  by_cases k : e.cls ∈ errPl ++ errIni ∧ 3 < env.length
  · rw [if_pos k] at h
    cases h
    refine ⟨k.1, ⟨⟨.rt (.str (kindS e.cls)), ?_, rfl⟩, fun o ho w hw => kind_cold ho hw, cold_str _⟩⟩
    simp [Q_L_told_0, S_L_kind_of, List.mem_append.mp k.1, k.2]
  · rw [if_neg k] at h
    cases h

def H_L_told_0 : Str → List D → Option D := fun c _ => if c ∈ errPl ++ errIni then some (.str (kindS c)) else none

theorem HQ_L_told_0 : HQ 4 G_L_told_0 H_L_told_0 := fun A m c ws as env d hn hv h => by
  unfold H_L_told_0 at h
  by_cases k : c ∈ errPl ++ errIni
  · rw [if_pos k] at h
    cases h
    exact ⟨_, _, if_pos ⟨k, by omega⟩, fun _ _ => .str _⟩
  · rw [if_neg k] at h
    cases h

def B_L_told : DS := (sTry (sRet (dCallV 2 [("least_by_growth", S_P_least_by_growth), ("least_fit", S_P_least_fit)] (dOp ixW (dCB lstW (dCons (dC (.fn "least_by_growth")) (dCons (dC (.fn "least_fit")) dNil))) (dVar 0)) (dCons (dVar 1) (dCons (dVar 2) dNil)))) G_L_told_0)
def R_L_told : Den := runD 4 B_L_told
abbrev S_L_told : Den := R_L_told
theorem se_L_told : ∀ ws m, S_L_told ws m ≠ .bad → R_L_told ws m = S_L_told ws m := fun _ _ _ => rfl
def V_L_told : VS := (vTry (vRetO (vCallV 2 [("least_by_growth", F_P_least_by_growth), ("least_fit", F_P_least_fit)] (vOp ixV (vCB lstV (vCons (vC (.fn "least_by_growth")) (vCons (vC (.fn "least_fit")) vNil))) (vVar 0)) (vCons (vVar 1) (vCons (vVar 2) vNil)))) H_L_told_0)
def F_L_told : FD := defV 3 4 V_L_told
theorem q_L_told : FQ S_L_told F_L_told := fq_of (u := B_L_told) (s := V_L_told) (by decide) (by
  unfold B_L_told V_L_told
  exact (sq_try (sq_retO (q_callV (.cons q_P_least_by_growth (.cons q_P_least_fit FQs.nil)) (q_op q_ixW (q_cb q_lstW (q_cons (q_c fun _ _ => .fn _) (q_cons (q_c fun _ _ => .fn _) q_nil))) (q_var 0)) (q_cons (q_var 1) (q_cons (q_var 2) q_nil)))) HQ_L_told_0))
abbrev st_L_law : Stmt := top 29
abbrev N_L_law : List Str := ["_law_script", "_law_d", "_law_g", "_law_due", "_law_some", "_law_cell", "_law_pen", "_law_odd", "_law_far", "_law_way", "_law_many"]
theorem sc_L_law : FnScope N_L_law ["_law_script"] (defScope st_L_law) := ⟨rfl, rfl, rfl, by decide +kernel, rfl, by decide +kernel, by decide +kernel⟩
def B_L_law : DS := (sSeq (sFor (dRng2 (dCons (dC (.int 2)) (dCons (dC (.int 16)) dNil))) (gNam 1) (sFor (dRng2 (dCons (dC (.int 3)) (dCons (dC (.int 17)) dNil))) (gNam 2) (sSeq (sSet (dCall 2 S_L_grown (dCons (dVar 1) (dCons (dVar 2) dNil))) (gNam 3))
        (sSeq (sIf (dTst (dOp neW (dCB reprW (dCons (dCall 3 S_L_told (dCons (dC (.int 0)) (dCons (dVar 1) (dCons (dVar 2) dNil)))) dNil)) (dCB reprW (dCons (dVar 3) dNil)))) (sRet (dC (.bl false))) sNext)
        (sSeq (sSet (dLc (dIs (dCB lstW (dCons (dVar 3) (dCons (dOp addW (dVar 3) (dC (.int 1))) dNil)))) (gNam 10) (dTst (dOp eqW (dOp modW (dOp mulW (dVar 10) (dVar 1)) (dC (.int 2))) (dC (.int 0)))) (dVar 10) [10]) (gNam 4))
        (sIf (dTst (dOp neW (dCB reprW (dCons (dCall 3 S_L_told (dCons (dC (.int 1)) (dCons (dVar 1) (dCons (dVar 2) dNil)))) dNil)) (dCB reprW (dCons (dOp ixW (dVar 4) (dC (.int 0))) dNil)))) (sRet (dC (.bl false))) sNext))))))
    (sSeq (sFor (dIs (dOp addW (dCB lstW (dCons (dCall 2 S_L_cell_at (dCons (dVar 0) (dCons (dC (.int 0)) dNil))) dNil)) (dSl (dVar 0) (oAt (dC (.int 1))) (oAt (dC (.int 4)))))) (gNam 5) (sSeq (sSet (dCall 1 S_L_pen_of (dCons (dVar 5) dNil)) (gNam 6))
      (sSeq (sSet (dCB tupW (dCons (dOp addW (dC (.int 2)) (dCall 2 S_L_draw (dCons (dVar 6) (dCons (dC (.int 14)) dNil)))) (dCons (dOp addW (dC (.int 3)) (dCall 2 S_L_draw (dCons (dVar 6) (dCons (dC (.int 14)) dNil)))) dNil))) (gTp 2 (gCn (gNam 1) (gCn (gNam 2) gNl))))
      (sSeq (sSet (dOp ixW (dCB lstW (dCons (dC (.int 1)) (dCons (dC (.int 16)) (dCons (dC (.int 0)) (dCons (dUn negW (dC (.int 1))) (dCons (dC (.bl true)) (dCons (dC .non) (dCons (dC (.str "3")) (dCons (dCB tupW (dCons (dC (.int 3)) dNil)) (dCons (dOp powW (dC (.int 10)) (dC (.int 30))) dNil)))))))))) (dCall 2 S_L_draw (dCons (dVar 6) (dCons (dC (.int 9)) dNil)))) (gNam 7))
      (sSeq (sSet (dOp ixW (dCB lstW (dCons (dC (.int 2)) (dCons (dC (.int 17)) (dCons (dC (.int 0)) (dCons (dUn negW (dC (.int 1))) (dCons (dC (.bl true)) (dCons (dC .non) (dCons (dC (.str "3")) (dCons (dCB tupW (dCons (dC (.int 3)) dNil)) (dCons (dOp powW (dC (.int 10)) (dC (.int 30))) dNil)))))))))) (dCall 2 S_L_draw (dCons (dVar 6) (dCons (dC (.int 9)) dNil)))) (gNam 8))
      (sFor (dRng1 (dCons (dC (.int 2)) dNil)) (gNam 9) (sIf (dTst (dOp neW (dCB lstW (dCons (dCall 3 S_L_told (dCons (dVar 9) (dCons (dVar 7) (dCons (dVar 2) dNil)))) (dCons (dCall 3 S_L_told (dCons (dVar 9) (dCons (dVar 7) (dCons (dVar 8) dNil)))) (dCons (dCall 3 S_L_told (dCons (dVar 9) (dCons (dVar 1) (dCons (dVar 8) dNil)))) dNil)))) (dOp mulW (dCB lstW (dCons (dC (.str "number")) dNil)) (dC (.int 3))))) (sRet (dC (.bl false))) sNext)))))))
    (sRet (dC (.bl true)))))
def R_L_law : Den := runD 11 B_L_law
abbrev S_L_law : Den := R_L_law
theorem se_L_law : ∀ ws m, S_L_law ws m ≠ .bad → R_L_law ws m = S_L_law ws m := fun _ _ _ => rfl
def V_L_law : VS := (vSeq (vFor (vRng2 (vCons (vC (.int 2)) (vCons (vC (.int 16)) vNil))) (vgN 1) (vFor (vRng2 (vCons (vC (.int 3)) (vCons (vC (.int 17)) vNil))) (vgN 2) (vSeq (vSet (vCall 2 F_L_grown (vCons (vVar 1) (vCons (vVar 2) vNil))) (vgN 3))
        (vSeq (vIfS (vTst (vOp neV (vCB reprV (vCons (vCall 3 F_L_told (vCons (vC (.int 0)) (vCons (vVar 1) (vCons (vVar 2) vNil)))) vNil)) (vCB reprV (vCons (vVar 3) vNil)))) (vRetO (vC (.bl false))) vNext)
        (vSeq (vSet (vLc (vIs (vCB lstV (vCons (vVar 3) (vCons (vOp addV (vVar 3) (vC (.int 1))) vNil)))) (vgN 10) (vTst (vOp eqV (vOp modV (vOp mulV (vVar 10) (vVar 1)) (vC (.int 2))) (vC (.int 0)))) (vVar 10) [10]) (vgN 4))
        (vIfS (vTst (vOp neV (vCB reprV (vCons (vCall 3 F_L_told (vCons (vC (.int 1)) (vCons (vVar 1) (vCons (vVar 2) vNil)))) vNil)) (vCB reprV (vCons (vOp ixV (vVar 4) (vC (.int 0))) vNil)))) (vRetO (vC (.bl false))) vNext))))))
    (vSeq (vFor (vIs (vOp addV (vCB lstV (vCons (vCall 2 F_L_cell_at (vCons (vVar 0) (vCons (vC (.int 0)) vNil))) vNil)) (vSl (vVar 0) (vAt (vC (.int 1))) (vAt (vC (.int 4)))))) (vgN 5) (vSeq (vNew (vCall 1 F_L_pen_of (vCons (vVar 5) vNil)) 6)
      (vSeq (vSetL (lCB tupV (lCons (lOp addV (lQ (vC (.int 2))) (lCallP 2 6 0 F_L_draw (lpHere 6 (lCons (lQ (vC (.int 14))) lNil)))) (lCons (lOp addV (lQ (vC (.int 3))) (lCallP 2 6 0 F_L_draw (lpHere 6 (lCons (lQ (vC (.int 14))) lNil)))) lNil))) (vgT 2 (vgC (vgN 1) (vgC (vgN 2) vgNl))))
      (vSeq (vSetL (lOp ixV (lQ (vCB lstV (vCons (vC (.int 1)) (vCons (vC (.int 16)) (vCons (vC (.int 0)) (vCons (vUn negV (vC (.int 1))) (vCons (vC (.bl true)) (vCons (vC .non) (vCons (vC (.str "3")) (vCons (vCB tupV (vCons (vC (.int 3)) vNil)) (vCons (vOp powV (vC (.int 10)) (vC (.int 30))) vNil))))))))))) (lCallP 2 6 0 F_L_draw (lpHere 6 (lCons (lQ (vC (.int 9))) lNil)))) (vgN 7))
      (vSeq (vSetL (lOp ixV (lQ (vCB lstV (vCons (vC (.int 2)) (vCons (vC (.int 17)) (vCons (vC (.int 0)) (vCons (vUn negV (vC (.int 1))) (vCons (vC (.bl true)) (vCons (vC .non) (vCons (vC (.str "3")) (vCons (vCB tupV (vCons (vC (.int 3)) vNil)) (vCons (vOp powV (vC (.int 10)) (vC (.int 30))) vNil))))))))))) (lCallP 2 6 0 F_L_draw (lpHere 6 (lCons (lQ (vC (.int 9))) lNil)))) (vgN 8))
      (vFor (vRng1 (vCons (vC (.int 2)) vNil)) (vgN 9) (vIfS (vTst (vOp neV (vCB lstV (vCons (vCall 3 F_L_told (vCons (vVar 9) (vCons (vVar 7) (vCons (vVar 2) vNil)))) (vCons (vCall 3 F_L_told (vCons (vVar 9) (vCons (vVar 7) (vCons (vVar 8) vNil)))) (vCons (vCall 3 F_L_told (vCons (vVar 9) (vCons (vVar 1) (vCons (vVar 8) vNil)))) vNil)))) (vOp mulV (vCB lstV (vCons (vC (.str "number")) vNil)) (vC (.int 3))))) (vRetO (vC (.bl false))) vNext)))))))
    (vRetO (vC (.bl true)))))
def F_L_law : FD := defV 1 11 V_L_law
theorem q_L_law : FQ S_L_law F_L_law := fq_of (u := B_L_law) (s := V_L_law) (by decide) (by
  unfold B_L_law V_L_law
  exact (sq_seq (sq_for (q_rng2 (q_cons (q_c fun _ _ => .int _) (q_cons (q_c fun _ _ => .int _) q_nil))) (g_nam 1) (sq_for (q_rng2 (q_cons (q_c fun _ _ => .int _) (q_cons (q_c fun _ _ => .int _) q_nil))) (g_nam 2) (sq_seq (sq_set (q_call q_L_grown (q_cons (q_var 1) (q_cons (q_var 2) q_nil))) (g_nam 3))
        (sq_seq (sq_if (q_tst (q_op q_neW (q_cb q_reprW (q_cons (q_call q_L_told (q_cons (q_c fun _ _ => .int _) (q_cons (q_var 1) (q_cons (q_var 2) q_nil)))) q_nil)) (q_cb q_reprW (q_cons (q_var 3) q_nil)))) (sq_retO (q_c fun _ _ => .bl false)) sq_next)
        (sq_seq (sq_set (q_lc (q_is (q_cb q_lstW (q_cons (q_var 3) (q_cons (q_op q_addW (q_var 3) (q_c fun _ _ => .int _)) q_nil)))) (g_nam 10) (q_tst (q_op q_eqW (q_op q_modW (q_op q_mulW (q_var 10) (q_var 1)) (q_c fun _ _ => .int _)) (q_c fun _ _ => .int _))) (q_var 10)) (g_nam 4))
        (sq_if (q_tst (q_op q_neW (q_cb q_reprW (q_cons (q_call q_L_told (q_cons (q_c fun _ _ => .int _) (q_cons (q_var 1) (q_cons (q_var 2) q_nil)))) q_nil)) (q_cb q_reprW (q_cons (q_op q_ixW (q_var 4) (q_c fun _ _ => .int _)) q_nil)))) (sq_retO (q_c fun _ _ => .bl false)) sq_next))))))
    (sq_seq (sq_for (q_is (q_op q_addW (q_cb q_lstW (q_cons (q_call q_L_cell_at (q_cons (q_var 0) (q_cons (q_c fun _ _ => .int _) q_nil))) q_nil)) (q_sl (q_var 0) (q_at (q_c fun _ _ => .int _)) (q_at (q_c fun _ _ => .int _))))) (g_nam 5) (sq_seq (sq_new (qf_call q_L_pen_of (q_cons (q_var 5) q_nil)) rfl)
      (sq_seq (sq_setL (l_cb q_tupW (l_cons (l_op q_addW (l_q (q_c fun _ _ => .int _)) (l_callP q_L_draw (lp_here (l_cons (l_q (q_c fun _ _ => .int _)) l_nil)))) (l_cons (l_op q_addW (l_q (q_c fun _ _ => .int _)) (l_callP q_L_draw (lp_here (l_cons (l_q (q_c fun _ _ => .int _)) l_nil)))) l_nil))) (g_tp (g_cn (g_nam 1) (g_cn (g_nam 2) g_nl))))
      (sq_seq (sq_setL (l_op q_ixW (l_q (q_cb q_lstW (q_cons (q_c fun _ _ => .int _) (q_cons (q_c fun _ _ => .int _) (q_cons (q_c fun _ _ => .int _) (q_cons (q_un q_negW (q_c fun _ _ => .int _)) (q_cons (q_c fun _ _ => .bl true) (q_cons (q_c fun _ _ => .non) (q_cons (q_c fun _ _ => .str _) (q_cons (q_cb q_tupW (q_cons (q_c fun _ _ => .int _) q_nil)) (q_cons (q_op q_powW (q_c fun _ _ => .int _) (q_c fun _ _ => .int _)) q_nil))))))))))) (l_callP q_L_draw (lp_here (l_cons (l_q (q_c fun _ _ => .int _)) l_nil)))) (g_nam 7))
      (sq_seq (sq_setL (l_op q_ixW (l_q (q_cb q_lstW (q_cons (q_c fun _ _ => .int _) (q_cons (q_c fun _ _ => .int _) (q_cons (q_c fun _ _ => .int _) (q_cons (q_un q_negW (q_c fun _ _ => .int _)) (q_cons (q_c fun _ _ => .bl true) (q_cons (q_c fun _ _ => .non) (q_cons (q_c fun _ _ => .str _) (q_cons (q_cb q_tupW (q_cons (q_c fun _ _ => .int _) q_nil)) (q_cons (q_op q_powW (q_c fun _ _ => .int _) (q_c fun _ _ => .int _)) q_nil))))))))))) (l_callP q_L_draw (lp_here (l_cons (l_q (q_c fun _ _ => .int _)) l_nil)))) (g_nam 8))
      (sq_for (q_rng1 (q_cons (q_c fun _ _ => .int _) q_nil)) (g_nam 9) (sq_if (q_tst (q_op q_neW (q_cb q_lstW (q_cons (q_call q_L_told (q_cons (q_var 9) (q_cons (q_var 7) (q_cons (q_var 2) q_nil)))) (q_cons (q_call q_L_told (q_cons (q_var 9) (q_cons (q_var 7) (q_cons (q_var 8) q_nil)))) (q_cons (q_call q_L_told (q_cons (q_var 9) (q_cons (q_var 1) (q_cons (q_var 8) q_nil)))) q_nil)))) (q_op q_mulW (q_cb q_lstW (q_cons (q_c fun _ _ => .str _) q_nil)) (q_c fun _ _ => .int _)))) (sq_retO (q_c fun _ _ => .bl false)) sq_next)))))))
    (sq_retO (q_c fun _ _ => .bl true)))))
section
variable {P : Program} {w : World} {K : PySem.W.Frag} {mg : Str → Option Value} {base : Heap}
theorem ok_P_is_whole (T : Txt K mg) {fd : FuncData} (F : FunP K "is_whole" st_P_is_whole fd) (hg : mg "is_whole" = some (.ref (He.ga K "is_whole")))  : Df P w K mg base false 1 "is_whole" 1 R_P_is_whole := by
  refine df_of F hg rfl (okF_of (hk := false) (N := N_P_is_whole) (ps := ["thing"]) F sc_P_is_whole fun hot pn cdv A outer s H E hh hr hp => ?_) (fun _ _ _ _ _ _ us hl => match us, hl with | [_], _ => rfl)
  · cases hh rfl
    exact (jb_one (js_ret ((je_and (je_isi (t := .int) (pe_callB call_isi rfl T.f_isinstance bt_isinstance (pa_cons (je_var (pv 0)) (pa_cons (pe_bltn rfl T.f_int bt_int rfl) pa_nil)))) (je_one (je_not (je_isi (t := .bool) (pe_callB call_isi rfl T.f_isinstance bt_isinstance (pa_cons (je_var (pv 0)) (pa_cons (pe_bltn rfl T.f_bool bt_bool rfl) pa_nil))))))))))
theorem ok_P_is_upto (T : Txt K mg) {fd : FuncData} (F : FunP K "is_upto" st_P_is_upto fd) (hg : mg "is_upto" = some (.ref (He.ga K "is_upto"))) (D_P_is_whole : Df P w K mg base false 1 "is_whole" 1 S_P_is_whole) : Df P w K mg base false 2 "is_upto" 3 R_P_is_upto := by
  refine df_of F hg rfl (okF_of (hk := false) (N := N_P_is_upto) (ps := ["thing", "low", "high"]) F sc_P_is_upto fun hot pn cdv A outer s H E hh hr hp => ?_) (fun _ _ _ _ _ _ us hl => match us, hl with | [_, _, _], _ => rfl)
  · cases hh rfl
    exact (jb_one (js_ret ((je_and (je_call D_P_is_whole (fun _ => rfl) (hr.mono (by decide)) HotIn.none (takes_of rfl rfl rfl rfl) rfl (ja_cons (je_var (pv 0)) ja_nil)) (je_one (je_chn (op_leW hr.u0) (op_leW hr.u0) (je_var (pv 1)) (je_var (pv 0)) (je_var (pv 2))))))))
theorem ok_P_check_number (T : Txt K mg) {fd : FuncData} (F : FunP K "check_number" st_P_check_number fd) (hg : mg "check_number" = some (.ref (He.ga K "check_number"))) (D_P_is_upto : Df P w K mg base false 2 "is_upto" 3 S_P_is_upto) : Df P w K mg base false 3 "check_number" 3 R_P_check_number := by
  refine df_of F hg rfl (okF_of (hk := false) (N := N_P_check_number) (ps := ["thing", "low", "high"]) F sc_P_check_number fun hot pn cdv A outer s H E hh hr hp => ?_) (fun _ _ _ _ _ _ us hl => match us, hl with | [_, _, _], _ => rfl)
  · cases hh rfl
    exact (jb_one (js_if (jt_not (jt_tru (je_call D_P_is_upto (fun _ => rfl) (hr.mono (by decide)) HotIn.none (takes_of rfl rfl rfl rfl) rfl (ja_cons (je_var (pv 0)) (ja_cons (je_var (pv 1)) (ja_cons (je_var (pv 2)) ja_nil)))))) (jb_one (js_raise0 rfl (takes_of rfl rfl rfl rfl) T.errs (by decide) rfl)) jb_nil))
theorem ok_P_check_wanted (T : Txt K mg) {fd : FuncData} (F : FunP K "check_wanted" st_P_check_wanted fd) (hg : mg "check_wanted" = some (.ref (He.ga K "check_wanted"))) (D_P_check_number : Df P w K mg base false 3 "check_number" 3 S_P_check_number) : Df P w K mg base false 4 "check_wanted" 2 R_P_check_wanted := by
  refine df_of F hg rfl (okF_of (hk := false) (N := N_P_check_wanted) (ps := ["d", "g"]) F sc_P_check_wanted fun hot pn cdv A outer s H E hh hr hp => ?_) (fun _ _ _ _ _ _ us hl => match us, hl with | [_, _], _ => rfl)
  · cases hh rfl
    exact (jb_cons (js_expr (je_call D_P_check_number (fun _ => rfl) (hr.mono (by decide)) HotIn.none (takes_of rfl rfl rfl rfl) rfl (ja_cons (je_var (pv 0)) (ja_cons (je_int) (ja_cons (je_op op_subW (je_c (v := .int 16) (by obtain ⟨t, ht⟩ := T.i_MOST_PLACES; exact pe_glob rfl ht ⟨t, rfl⟩) (fun _ _ _ => .int _)) (je_int)) ja_nil)))))
    (jb_one (js_expr (je_call D_P_check_number (fun _ => rfl) (hr.mono (by decide)) HotIn.none (takes_of rfl rfl rfl rfl) rfl (ja_cons (je_var (pv 1)) (ja_cons (je_int) (ja_cons (je_c (v := .int 16) (by obtain ⟨t, ht⟩ := T.i_MOST_PLACES; exact pe_glob rfl ht ⟨t, rfl⟩) (fun _ _ _ => .int _)) ja_nil)))))))
theorem ok_P_grown (T : Txt K mg) {fd : FuncData} (F : FunP K "grown" st_P_grown fd) (hg : mg "grown" = some (.ref (He.ga K "grown")))  : Df P w K mg base false 1 "grown" 2 R_P_grown := by
  refine df_of F hg rfl (okF_of (hk := false) (N := N_P_grown) (ps := ["d", "g"]) F sc_P_grown fun hot pn cdv A outer s H E hh hr hp => ?_) (fun _ _ _ _ _ _ us hl => match us, hl with | [_, _], _ => rfl)
  · cases hh rfl
    exact (jb_cons (js_set (ps_set (i := 2) sc_P_grown.nd rfl (by first | exact .inl rfl | exact .inr rfl) (je_int)))
    (jb_cons (js_set (ps_set (i := 3) sc_P_grown.nd rfl (by first | exact .inl rfl | exact .inr rfl) (je_int)))
    (jb_cons (js_for (passes_of rfl) rfl (ji_rng1 (pi_range1 rfl T.f_range (ja_cons (je_op op_fdivW (je_var (pv 1)) (je_int)) ja_nil))) (jg_name (pg_name sc_P_grown.nd rfl (by first | exact .inl rfl | exact .inr rfl))) (jb_cons (js_aug (ps_aug (i := 2) sc_P_grown.nd rfl (by first | exact .inl rfl | exact .inr rfl) (je_var (pv 3)) ip_add))
      (jb_one (js_set (ps_set (i := 3) sc_P_grown.nd rfl (by first | exact .inl rfl | exact .inr rfl) (je_op op_mulW (je_var (pv 3)) (je_op op_subW (je_var (pv 0)) (je_int))))))))
    (jb_cons (js_if (jt_cmp (op_eqW hr.u64) (je_op op_modW (je_var (pv 1)) (je_int)) (je_int) (nomark _)) (jb_one (js_ret (je_op op_addW (je_int) (je_op op_mulW (je_var (pv 0)) (je_var (pv 2)))))) jb_nil)
    (jb_one (js_ret (je_op op_mulW (je_int) (je_var (pv 2)))))))))
theorem ok_P_least_by_growth (T : Txt K mg) {fd : FuncData} (F : FunP K "least_by_growth" st_P_least_by_growth fd) (hg : mg "least_by_growth" = some (.ref (He.ga K "least_by_growth"))) (D_P_check_wanted : Df P w K mg base false 4 "check_wanted" 2 S_P_check_wanted) (D_P_grown : Df P w K mg base false 1 "grown" 2 S_P_grown) : Df P w K mg base false 5 "least_by_growth" 2 R_P_least_by_growth := by
  refine df_of F hg rfl (okF_of (hk := false) (N := N_P_least_by_growth) (ps := ["d", "g"]) F sc_P_least_by_growth fun hot pn cdv A outer s H E hh hr hp => ?_) (fun _ _ _ _ _ _ us hl => match us, hl with | [_, _], _ => rfl)
  · cases hh rfl
    exact (jb_cons (js_expr (je_call D_P_check_wanted (fun _ => rfl) (hr.mono (by decide)) HotIn.none (takes_of rfl rfl rfl rfl) rfl (ja_cons (je_var (pv 0)) (ja_cons (je_var (pv 1)) ja_nil))))
    (jb_one (js_ret (je_call D_P_grown (fun _ => rfl) (hr.mono (by decide)) HotIn.none (takes_of rfl rfl rfl rfl) rfl (ja_cons (je_var (pv 0)) (ja_cons (je_var (pv 1)) ja_nil))))))
theorem ok_P_least_fit (T : Txt K mg) {fd : FuncData} (F : FunP K "least_fit" st_P_least_fit fd) (hg : mg "least_fit" = some (.ref (He.ga K "least_fit"))) (D_P_check_wanted : Df P w K mg base false 4 "check_wanted" 2 S_P_check_wanted) (D_P_grown : Df P w K mg base false 1 "grown" 2 S_P_grown) : Df P w K mg base false 5 "least_fit" 2 R_P_least_fit := by
  refine df_of F hg rfl (okF_of (hk := false) (N := N_P_least_fit) (ps := ["d", "g"]) F sc_P_least_fit fun hot pn cdv A outer s H E hh hr hp => ?_) (fun _ _ _ _ _ _ us hl => match us, hl with | [_, _], _ => rfl)
  · cases hh rfl
    exact (jb_cons (js_expr (je_call D_P_check_wanted (fun _ => rfl) (hr.mono (by decide)) HotIn.none (takes_of rfl rfl rfl rfl) rfl (ja_cons (je_var (pv 0)) (ja_cons (je_var (pv 1)) ja_nil))))
    (jb_cons (js_set (ps_set (i := 2) sc_P_least_fit.nd rfl (by first | exact .inl rfl | exact .inr rfl) (je_cb (pe_callB (cb_max2 rfl) rfl T.f_max bt_max (ja_cons (je_call D_P_grown (fun _ => rfl) (hr.mono (by decide)) HotIn.none (takes_of rfl rfl rfl rfl) rfl (ja_cons (je_var (pv 0)) (ja_cons (je_var (pv 1)) ja_nil))) (ja_cons (je_op op_addW (je_var (pv 0)) (je_int)) ja_nil))))))
    (jb_one (js_ret (je_op op_addW (je_var (pv 2)) (je_op op_modW (je_op op_mulW (je_var (pv 2)) (je_var (pv 0))) (je_int)))))))
theorem ok_L_cell_at (T : Txt K mg) {fd : FuncData} (F : FunP K "_law_cell_at" st_L_cell_at fd) (hg : mg "_law_cell_at" = some (.ref (He.ga K "_law_cell_at")))  : Df P w K mg base false 1 "_law_cell_at" 2 R_L_cell_at := by
  refine df_of F hg rfl (okF_of (hk := false) (N := N_L_cell_at) (ps := ["_law_script", "_law_k"]) F sc_L_cell_at fun hot pn cdv A outer s H E hh hr hp => ?_) (fun _ _ _ _ _ _ us hl => match us, hl with | [_, _], _ => rfl)
  · cases hh rfl
    exact (jb_cons (js_if (jt_cmp (op_ltW hr.u0) (je_var (pv 1)) (je_cb (pe_callB cb_len rfl T.f_len bt_len (ja_cons (je_var (pv 0)) ja_nil))) (nomark _)) (jb_one (js_ret (je_ix (pe_ix ix_W (je_var (pv 0)) (je_var (pv 1)) (fun _ _ => rfl))))) jb_nil)
    (jb_one (js_ret (je_int))))
theorem ok_L_next (T : Txt K mg) {fd : FuncData} (F : FunP K "_law_next" st_L_next fd) (hg : mg "_law_next" = some (.ref (He.ga K "_law_next")))  : Df P w K mg base false 1 "_law_next" 1 R_L_next := by
  refine df_of F hg rfl (okF_of (hk := false) (N := N_L_next) (ps := ["_law_seed"]) F sc_L_next fun hot pn cdv A outer s H E hh hr hp => ?_) (fun _ _ _ _ _ _ us hl => match us, hl with | [_], _ => rfl)
  · cases hh rfl
    exact (jb_cons (js_set (ps_set (i := 0) sc_L_next.nd rfl (by first | exact .inl rfl | exact .inr rfl) (je_op op_modW (je_op op_addW (je_var (pv 0)) (je_int)) (je_int))))
    (jb_one (js_ret (je_op op_modW (je_op op_addW (je_op op_addW (je_op op_mulW (je_var (pv 0)) (je_var (pv 0))) (je_op op_mulW (je_int) (je_var (pv 0)))) (je_int)) (je_int)))))
theorem ok_L_pen_of (T : Txt K mg) {fd : FuncData} (F : FunP K "_law_pen_of" st_L_pen_of fd) (hg : mg "_law_pen_of" = some (.ref (He.ga K "_law_pen_of")))  : Df P w K mg base false 1 "_law_pen_of" 1 R_L_pen_of := by
  refine df_of F hg rfl (okF_of (hk := false) (N := N_L_pen_of) (ps := ["_law_cell"]) F sc_L_pen_of fun hot pn cdv A outer s H E hh hr hp => ?_) (fun _ _ _ _ _ _ us hl => match us, hl with | [_], _ => rfl)
  · cases hh rfl
    exact (jb_cons (js_set (ps_set (i := 1) sc_L_pen_of.nd rfl (by first | exact .inl rfl | exact .inr rfl) (je_cb (pe_callB (cb_max2 rfl) rfl T.f_max bt_max (ja_cons (je_var (pv 0)) (ja_cons (je_op op_subW (je_int) (je_var (pv 0))) ja_nil))))))
    (jb_one (js_ret (je_lst (ja_cons (je_var (pv 1)) (ja_cons (je_cb (pe_callTy cb_int rfl T.f_int bt_int (ja_cons (je_cmp op_geW (je_var (pv 1)) (je_op op_powW (je_int) (je_int)) (nomark _)) ja_nil))) (ja_cons (je_op op_modW (je_var (pv 1)) (je_int)) ja_nil)))))))
theorem ok_L_draw (T : Txt K mg) {fd : FuncData} (F : FunP K "_law_draw" st_L_draw fd) (hg : mg "_law_draw" = some (.ref (He.ga K "_law_draw"))) (D_L_next : Df P w K mg base false 1 "_law_next" 1 S_L_next) : Df P w K mg base false 2 "_law_draw" 2 R_L_draw := by
  refine df_of F hg rfl (okF_of (hk := false) (N := N_L_draw) (ps := ["_law_pen", "_law_many"]) F sc_L_draw fun hot pn cdv A outer s H E hh hr hp => ?_) (fun _ _ _ _ _ _ us hl => match us, hl with | [_, _], _ => rfl)
  · cases hh rfl
    exact (jb_cons (js_if (jt_cmp (op_eqW hr.u64) (je_ix (pe_ix ix_W (je_var (pv 0)) (je_int) (fun _ _ => rfl))) (je_int) (nomark _)) (jb_cons (js_set (ps_set (i := 2) sc_L_draw.nd rfl (by first | exact .inl rfl | exact .inr rfl) (je_op op_modW (je_ix (pe_ix ix_W (je_var (pv 0)) (je_int) (fun _ _ => rfl))) (je_var (pv 1)))))
      (jb_cons (js_asg (je_op op_fdivW (je_ix (pe_ix ix_W (je_var (pv 0)) (je_int) (fun _ _ => rfl))) (je_var (pv 1))) (jg_sub (je_var (pv 0)) (je_int)))
      (jb_one (js_ret (je_var (pv 2)))))) jb_nil)
    (jb_cons (js_asg (je_call D_L_next (fun _ => rfl) (hr.mono (by decide)) HotIn.none (takes_of rfl rfl rfl rfl) rfl (ja_cons (je_op op_addW (je_call D_L_next (fun _ => rfl) (hr.mono (by decide)) HotIn.none (takes_of rfl rfl rfl rfl) rfl (ja_cons (je_ix (pe_ix ix_W (je_var (pv 0)) (je_int) (fun _ _ => rfl))) ja_nil)) (je_int)) ja_nil)) (jg_sub (je_var (pv 0)) (je_int)))
    (jb_one (js_ret (je_op op_modW (je_op op_fdivW (je_ix (pe_ix ix_W (je_var (pv 0)) (je_int) (fun _ _ => rfl))) (je_int)) (je_var (pv 1)))))))
theorem ok_L_whole (T : Txt K mg) {fd : FuncData} (F : FunP K "_law_whole" st_L_whole fd) (hg : mg "_law_whole" = some (.ref (He.ga K "_law_whole")))  : Df P w K mg base true 1 "_law_whole" 1 R_L_whole := by
  refine df_of F hg rfl (okF_of (hk := true) (N := N_L_whole) (ps := ["_law_found"]) F sc_L_whole fun hot pn cdv A outer s H E hh hr hp => ?_) (fun _ _ _ _ _ _ us hl => match us, hl with | [_], _ => rfl)
  · skip
    exact (jb_one (js_ret ((je_and (je_isi (t := .int) (pe_callB call_isi rfl T.f_isinstance bt_isinstance (pa_cons (je_var (pv 0)) (pa_cons (pe_bltn rfl T.f_int bt_int rfl) pa_nil)))) (je_one (je_not (je_isi (t := .bool) (pe_callB call_isi rfl T.f_isinstance bt_isinstance (pa_cons (je_var (pv 0)) (pa_cons (pe_bltn rfl T.f_bool bt_bool rfl) pa_nil))))))))))
theorem ok_L_kind_of (T : Txt K mg) {fd : FuncData} (F : FunP K "_law_kind_of" st_L_kind_of fd) (hg : mg "_law_kind_of" = some (.ref (He.ga K "_law_kind_of")))  : Df P w K mg base true 1 "_law_kind_of" 1 R_L_kind_of := by
  refine df_of F hg rfl (okF_of (hk := true) (N := N_L_kind_of) (ps := ["_law_e"]) F sc_L_kind_of fun hot pn cdv A outer s H E hh hr hp => ?_) (fun _ _ _ _ _ _ us hl => match us, hl with | [_], _ => rfl)
  · skip
    exact (jb_cons (js_set (ps_set (i := 1) sc_L_kind_of.nd rfl (by first | exact .inl rfl | exact .inr rfl) (je_lst (ja_cons (je_ise T.errs (.inl (by decide)) hp rfl T.f_isinstance bt_isinstance (pa_cons (je_var (pv 0)) (pa_cons (by rw [if_neg (by decide)]; exact pe_glob rfl (T.errs.glo _ (by decide)) rfl) pa_nil))) (ja_cons (je_ise T.errs (.inl (by decide)) hp rfl T.f_isinstance bt_isinstance (pa_cons (je_var (pv 0)) (pa_cons (by rw [if_neg (by decide)]; exact pe_glob rfl (T.errs.glo _ (by decide)) rfl) pa_nil))) (ja_cons (je_ise T.errs (.inl (by decide)) hp rfl T.f_isinstance bt_isinstance (pa_cons (je_var (pv 0)) (pa_cons (by rw [if_neg (by decide)]; exact pe_glob rfl (T.errs.glo _ (by decide)) rfl) pa_nil))) (ja_cons (je_ise T.errs (.inl (by decide)) hp rfl T.f_isinstance bt_isinstance (pa_cons (je_var (pv 0)) (pa_cons (by rw [if_neg (by decide)]; exact pe_glob rfl (T.errs.glo _ (by decide)) rfl) pa_nil))) ja_nil)))))))
    (jb_cons (js_set (ps_set (i := 1) sc_L_kind_of.nd rfl (by first | exact .inl rfl | exact .inr rfl) (je_op op_addW (je_var (pv 1)) (je_lst (ja_cons (je_ise T.errs (.inl (by decide)) hp rfl T.f_isinstance bt_isinstance (pa_cons (je_var (pv 0)) (pa_cons (by rw [if_neg (by decide)]; exact pe_glob rfl (T.errs.glo _ (by decide)) rfl) pa_nil))) (ja_cons (je_ise T.errs (.inl (by decide)) hp rfl T.f_isinstance bt_isinstance (pa_cons (je_var (pv 0)) (pa_cons (by rw [if_neg (by decide)]; exact pe_glob rfl (T.errs.glo _ (by decide)) rfl) pa_nil))) (ja_cons (je_ise T.errs (.inl (by decide)) hp rfl T.f_isinstance bt_isinstance (pa_cons (je_var (pv 0)) (pa_cons (by rw [if_neg (by decide)]; exact pe_glob rfl (T.errs.glo _ (by decide)) rfl) pa_nil))) (ja_cons (je_ise T.errs (.inl (by decide)) hp rfl T.f_isinstance bt_isinstance (pa_cons (je_var (pv 0)) (pa_cons (by rw [if_neg (by decide)]; exact pe_glob rfl (T.errs.glo _ (by decide)) rfl) pa_nil))) ja_nil))))))))
    (jb_cons (js_if (jt_bool (jw_or (jt_not (jt_tru (je_ise T.errs (.inr rfl) hp rfl T.f_isinstance bt_isinstance (pa_cons (je_var (pv 0)) (pa_cons (by rw [if_pos rfl]; exact pe_bltn rfl T.f_ValueError bt_ValueError rfl) pa_nil))))) (jw_or1 (jt_cmp (op_neW hr.u64) (je_bm (c := .list) (pe_bm PySem.F.plainAttrs_list PySem.F.slot_list_count PySem.F.type_list_count (mt_countW hr.u65) (je_var (pv 1)) (ja_cons (je_bl) ja_nil))) (je_int) (nomark _))))) (jb_one (js_ret (je_str))) jb_nil)
    (jb_one (js_ret (je_ix (pe_ix ix_W (je_lst (ja_cons (je_str) (ja_cons (je_str) (ja_cons (je_str) (ja_cons (je_str) (ja_cons (je_str) (ja_cons (je_str) (ja_cons (je_str) (ja_cons (je_str) ja_nil))))))))) (je_bm (c := .list) (pe_bm PySem.F.plainAttrs_list PySem.F.slot_list_index PySem.F.type_list_index (mt_indexW hr.u65) (je_var (pv 1)) (ja_cons (je_bl) ja_nil))) (fun _ _ => rfl))))))))
theorem ok_L_grown (T : Txt K mg) {fd : FuncData} (F : FunP K "_law_grown" st_L_grown fd) (hg : mg "_law_grown" = some (.ref (He.ga K "_law_grown")))  : Df P w K mg base false 1 "_law_grown" 2 R_L_grown := by
  refine df_of F hg rfl (okF_of (hk := false) (N := N_L_grown) (ps := ["_law_d", "_law_g"]) F sc_L_grown fun hot pn cdv A outer s H E hh hr hp => ?_) (fun _ _ _ _ _ _ us hl => match us, hl with | [_, _], _ => rfl)
  · cases hh rfl
    exact (jb_cons (js_par (ps_par rfl sc_L_grown.nd rfl rfl (by decide) rfl rfl (ja_cons (je_ix (pe_ix ix_W (je_lst (ja_cons (je_int) (ja_cons (je_int) ja_nil))) (je_op op_subW (je_int) (je_op op_modW (je_var (pv 1)) (je_int))) (fun _ _ => rfl))) (ja_cons (je_ix (pe_ix ix_W (je_lst (ja_cons (je_int) (ja_cons (je_int) ja_nil))) (je_op op_subW (je_int) (je_op op_modW (je_var (pv 1)) (je_int))) (fun _ _ => rfl))) ja_nil)) (by rfl)))
    (jb_cons (js_set (ps_set (i := 4) sc_L_grown.nd rfl (by first | exact .inl rfl | exact .inr rfl) (je_if (jt_cmp (op_eqW hr.u64) (je_op op_modW (je_var (pv 1)) (je_int)) (je_int) (nomark _)) (je_var (pv 0)) (je_op op_subW (je_var (pv 0)) (je_int)))))
    (jb_cons (js_for (passes_of rfl) rfl (ji_rng1 (pi_range1 rfl T.f_range (ja_cons (je_op op_fdivW (je_op op_subW (je_var (pv 1)) (je_int)) (je_int)) ja_nil))) (jg_name (pg_name sc_L_grown.nd rfl (by first | exact .inl rfl | exact .inr rfl))) (jb_cons (js_set (ps_set (i := 2) sc_L_grown.nd rfl (by first | exact .inl rfl | exact .inr rfl) (je_op op_mulW (je_var (pv 2)) (je_var (pv 4)))))
      (jb_cons (js_set (ps_set (i := 4) sc_L_grown.nd rfl (by first | exact .inl rfl | exact .inr rfl) (je_op op_subW (je_var (pv 0)) (je_int))))
      (jb_one (js_set (ps_set (i := 3) sc_L_grown.nd rfl (by first | exact .inl rfl | exact .inr rfl) (je_op op_addW (je_var (pv 3)) (je_var (pv 2)))))))))
    (jb_one (js_ret (je_var (pv 3)))))))
theorem ok_L_told (T : Txt K mg) {fd : FuncData} (F : FunP K "_law_told" st_L_told fd) (hg : mg "_law_told" = some (.ref (He.ga K "_law_told"))) (D_L_kind_of : Df P w K mg base true 1 "_law_kind_of" 1 S_L_kind_of) (D_P_least_by_growth : Df P w K mg base false 5 "least_by_growth" 2 S_P_least_by_growth) (D_P_least_fit : Df P w K mg base false 5 "least_fit" 2 S_P_least_fit) : Df P w K mg base false 6 "_law_told" 3 R_L_told := by
  refine df_of F hg rfl (okF_of (hk := false) (N := N_L_told) (ps := ["_law_way", "_law_d", "_law_g"]) F sc_L_told fun hot pn cdv A outer s H E hh hr hp => ?_) (fun _ _ _ _ _ _ us hl => match us, hl with | [_, _, _], _ => rfl)
  · cases hh rfl
    exact (jb_one (js_try (i := 3) (ts := Q_L_told_0) rfl rfl sc_L_told.nd rfl rfl T.errs (by decide) rfl (takes_of rfl rfl rfl rfl) (fun W pn xe tk po => (jb_one (js_ret (je_callV (tb := [("least_by_growth", S_P_least_by_growth), ("least_fit", S_P_least_fit)]) (.cons D_P_least_by_growth (fun _ => rfl) (hr.mono (by decide)) (.cons D_P_least_fit (fun _ => rfl) (hr.mono (by decide)) Dfs.nil)) HotIn.none tk (je_ix (pe_ix ix_W (je_lst (ja_cons (je_c (v := .ref (He.ga _ "least_by_growth")) (pe_glob rfl D_P_least_by_growth.gl rfl) (fun _ _ _ => .fn _)) (ja_cons (je_c (v := .ref (He.ga _ "least_fit")) (pe_glob rfl D_P_least_fit.gl rfl) (fun _ _ _ => .fn _)) ja_nil))) (je_var (pv 0)) (fun _ _ => rfl))) (ja_cons (je_var (pv 1)) (ja_cons (je_var (pv 2)) ja_nil)))))) (fun a oe cls d pn e hp => by have hr := RoomN.suite (h := ⟨a, e, cls, d⟩) hr (.ref a); exact (jb_one (js_ret (je_call D_L_kind_of (fun z => nomatch z) (hr.mono (by decide)) hp takes0 rfl (ja_cons (je_var (pv 3)) ja_nil))))) SG_L_told_0))
theorem ok_L_law (T : Txt K mg) {fd : FuncData} (F : FunP K "law" st_L_law fd) (D_L_pen_of : Df P w K mg base false 1 "_law_pen_of" 1 S_L_pen_of) (D_L_grown : Df P w K mg base false 1 "_law_grown" 2 S_L_grown) (D_L_cell_at : Df P w K mg base false 1 "_law_cell_at" 2 S_L_cell_at) (D_L_draw : Df P w K mg base false 2 "_law_draw" 2 S_L_draw) (D_L_told : Df P w K mg base false 6 "_law_told" 3 S_L_told) : OkF P w K mg base false 7 "law" fd ["_law_script"] R_L_law := by
  refine okF_of (hk := false) (N := N_L_law) F sc_L_law fun hot pn cdv A outer s H E hh hr hp => ?_
  cases hh rfl
  exact (jb_cons (js_for (passes_of rfl) rfl (ji_rng2 (pi_range2 rfl T.f_range (ja_cons (je_int) (ja_cons (je_int) ja_nil)))) (jg_name (pg_name sc_L_law.nd rfl (by first | exact .inl rfl | exact .inr rfl))) (jb_one (js_for (passes_of rfl) rfl (ji_rng2 (pi_range2 rfl T.f_range (ja_cons (je_int) (ja_cons (je_int) ja_nil)))) (jg_name (pg_name sc_L_law.nd rfl (by first | exact .inl rfl | exact .inr rfl))) (jb_cons (js_set (ps_set (i := 3) sc_L_law.nd rfl (by first | exact .inl rfl | exact .inr rfl) (je_call D_L_grown (fun _ => rfl) (hr.mono (by decide)) HotIn.none (takes_of rfl rfl rfl rfl) rfl (ja_cons (je_var (pv 1)) (ja_cons (je_var (pv 2)) ja_nil)))))
        (jb_cons (js_if (jt_cmp (op_neW hr.u64) (je_cb (pe_callB (cb_repr hr.gd hr.u40) rfl T.f_repr bt_repr (ja_cons (je_call D_L_told (fun _ => rfl) (hr.mono (by decide)) HotIn.none (takes_of rfl rfl rfl rfl) rfl (ja_cons (je_int) (ja_cons (je_var (pv 1)) (ja_cons (je_var (pv 2)) ja_nil)))) ja_nil))) (je_cb (pe_callB (cb_repr hr.gd hr.u40) rfl T.f_repr bt_repr (ja_cons (je_var (pv 3)) ja_nil))) (nomark _)) (jb_one (js_ret (je_bl))) jb_nil)
        (jb_cons (by first | exact js_lc (ps_setLc (i := 4) (own := [("_law_many", 10)]) (g := (gName 10)) rfl sc_L_law.nd rfl rfl (sw_true rfl rfl rfl (by decide +kernel)) (ji_seq (je_lst (ja_cons (je_var (pv 3)) (ja_cons (je_op op_addW (je_var (pv 3)) (je_int)) ja_nil)))) (blkOk_by (N := N_L_law) (sc := defScope (st_L_law)) (by decide +kernel)) (fun _ _ _ _ _ => pg_name sc_L_law.nd rfl (by first | exact .inl rfl | exact .inr rfl)) (fun _ _ _ _ _ => (jts_one (jt_cmp (op_eqW hr.u64) (je_op op_modW (je_op op_mulW (je_var (pv 10)) (je_var (pv 1))) (je_int)) (je_int) (nomark _)))) (fun _ _ _ _ _ => (je_var (pv 10)))) (tg_name (by simp)) nam_m | exact js_set (ps_set (i := 4) sc_L_law.nd rfl (by first | exact .inl rfl | exact .inr rfl) (je_lc (pe_lc (own := [("_law_many", 10)]) (g := (gName 10)) rfl sc_L_law.nd (ji_seq (je_lst (ja_cons (je_var (pv 3)) (ja_cons (je_op op_addW (je_var (pv 3)) (je_int)) ja_nil)))) (blkOk_by (N := N_L_law) (sc := defScope (st_L_law)) (by decide +kernel)) (fun _ _ _ _ _ => pg_name sc_L_law.nd rfl (by first | exact .inl rfl | exact .inr rfl)) (fun _ _ _ _ _ => (jts_one (jt_cmp (op_eqW hr.u64) (je_op op_modW (je_op op_mulW (je_var (pv 10)) (je_var (pv 1))) (je_int)) (je_int) (nomark _)))) (fun _ _ _ _ _ => (je_var (pv 10)))) (tg_name (by simp)) nam_m)))
        (jb_one (js_if (jt_cmp (op_neW hr.u64) (je_cb (pe_callB (cb_repr hr.gd hr.u40) rfl T.f_repr bt_repr (ja_cons (je_call D_L_told (fun _ => rfl) (hr.mono (by decide)) HotIn.none (takes_of rfl rfl rfl rfl) rfl (ja_cons (je_int) (ja_cons (je_var (pv 1)) (ja_cons (je_var (pv 2)) ja_nil)))) ja_nil))) (je_cb (pe_callB (cb_repr hr.gd hr.u40) rfl T.f_repr bt_repr (ja_cons (je_ix (pe_ix ix_W (je_var (pv 4)) (je_int) (fun _ _ => rfl))) ja_nil))) (nomark _)) (jb_one (js_ret (je_bl))) jb_nil))))))))
    (jb_cons (js_for (passes_of rfl) rfl (ji_seq (je_op op_addW (je_lst (ja_cons (je_call D_L_cell_at (fun _ => rfl) (hr.mono (by decide)) HotIn.none (takes_of rfl rfl rfl rfl) rfl (ja_cons (je_var (pv 0)) (ja_cons (je_int) ja_nil))) ja_nil)) (je_sl (pe_slice sl_W (je_var (pv 0)) (jo_some (je_int)) (jo_some (je_int)))))) (jg_name (pg_name sc_L_law.nd rfl (by first | exact .inl rfl | exact .inr rfl))) (jb_cons (js_set (ps_set (i := 6) sc_L_law.nd rfl (by first | exact .inl rfl | exact .inr rfl) (je_call D_L_pen_of (fun _ => rfl) (hr.mono (by decide)) HotIn.none (takes_of rfl rfl rfl rfl) rfl (ja_cons (je_var (pv 5)) ja_nil))))
      (jb_cons (js_asg (je_tup (ja_cons (je_op op_addW (je_int) (je_call D_L_draw (fun _ => rfl) (hr.mono (by decide)) HotIn.none (takes_of rfl rfl rfl rfl) rfl (ja_cons (je_var (pv 6)) (ja_cons (je_int) ja_nil)))) (ja_cons (je_op op_addW (je_int) (je_call D_L_draw (fun _ => rfl) (hr.mono (by decide)) HotIn.none (takes_of rfl rfl rfl rfl) rfl (ja_cons (je_var (pv 6)) (ja_cons (je_int) ja_nil)))) ja_nil))) (jg_tup rfl (jgs_cons (jg_name (pg_name sc_L_law.nd rfl (by first | exact .inl rfl | exact .inr rfl))) (jgs_cons (jg_name (pg_name sc_L_law.nd rfl (by first | exact .inl rfl | exact .inr rfl))) jgs_nil))))
      (jb_cons (js_set (ps_set (i := 7) sc_L_law.nd rfl (by first | exact .inl rfl | exact .inr rfl) (je_ix (pe_ix ix_W (je_lst (ja_cons (je_int) (ja_cons (je_int) (ja_cons (je_int) (ja_cons (je_un un_negW (je_int)) (ja_cons (je_bl) (ja_cons (je_non) (ja_cons (je_str) (ja_cons (je_tup (ja_cons (je_int) ja_nil)) (ja_cons (je_op op_powW (je_int) (je_int)) ja_nil)))))))))) (je_call D_L_draw (fun _ => rfl) (hr.mono (by decide)) HotIn.none (takes_of rfl rfl rfl rfl) rfl (ja_cons (je_var (pv 6)) (ja_cons (je_int) ja_nil))) (fun _ _ => rfl)))))
      (jb_cons (js_set (ps_set (i := 8) sc_L_law.nd rfl (by first | exact .inl rfl | exact .inr rfl) (je_ix (pe_ix ix_W (je_lst (ja_cons (je_int) (ja_cons (je_int) (ja_cons (je_int) (ja_cons (je_un un_negW (je_int)) (ja_cons (je_bl) (ja_cons (je_non) (ja_cons (je_str) (ja_cons (je_tup (ja_cons (je_int) ja_nil)) (ja_cons (je_op op_powW (je_int) (je_int)) ja_nil)))))))))) (je_call D_L_draw (fun _ => rfl) (hr.mono (by decide)) HotIn.none (takes_of rfl rfl rfl rfl) rfl (ja_cons (je_var (pv 6)) (ja_cons (je_int) ja_nil))) (fun _ _ => rfl)))))
      (jb_one (js_for (passes_of rfl) rfl (ji_rng1 (pi_range1 rfl T.f_range (ja_cons (je_int) ja_nil))) (jg_name (pg_name sc_L_law.nd rfl (by first | exact .inl rfl | exact .inr rfl))) (jb_one (js_if (jt_cmp (op_neW hr.u64) (je_lst (ja_cons (je_call D_L_told (fun _ => rfl) (hr.mono (by decide)) HotIn.none (takes_of rfl rfl rfl rfl) rfl (ja_cons (je_var (pv 9)) (ja_cons (je_var (pv 7)) (ja_cons (je_var (pv 2)) ja_nil)))) (ja_cons (je_call D_L_told (fun _ => rfl) (hr.mono (by decide)) HotIn.none (takes_of rfl rfl rfl rfl) rfl (ja_cons (je_var (pv 9)) (ja_cons (je_var (pv 7)) (ja_cons (je_var (pv 8)) ja_nil)))) (ja_cons (je_call D_L_told (fun _ => rfl) (hr.mono (by decide)) HotIn.none (takes_of rfl rfl rfl rfl) rfl (ja_cons (je_var (pv 9)) (ja_cons (je_var (pv 1)) (ja_cons (je_var (pv 8)) ja_nil)))) ja_nil)))) (je_op op_mulW (je_lst (ja_cons (je_str) ja_nil)) (je_int)) (nomark _)) (jb_one (js_ret (je_bl))) jb_nil)))))))))
    (jb_one (js_ret (je_bl)))))
end
def dfs : List He.DefD := [⟨("is_whole", none), "is_whole", "is_whole", defArgs st_P_is_whole, defBody st_P_is_whole, defScope st_P_is_whole, [], []⟩, ⟨("is_upto", none), "is_upto", "is_upto", defArgs st_P_is_upto, defBody st_P_is_upto, defScope st_P_is_upto, [], []⟩, ⟨("check_number", none), "check_number", "check_number", defArgs st_P_check_number, defBody st_P_check_number, defScope st_P_check_number, [], []⟩, ⟨("check_wanted", none), "check_wanted", "check_wanted", defArgs st_P_check_wanted, defBody st_P_check_wanted, defScope st_P_check_wanted, [], []⟩, ⟨("grown", none), "grown", "grown", defArgs st_P_grown, defBody st_P_grown, defScope st_P_grown, [], []⟩, ⟨("least_by_growth", none), "least_by_growth", "least_by_growth", defArgs st_P_least_by_growth, defBody st_P_least_by_growth, defScope st_P_least_by_growth, [], []⟩, ⟨("least_fit", none), "least_fit", "least_fit", defArgs st_P_least_fit, defBody st_P_least_fit, defScope st_P_least_fit, [], []⟩, ⟨("_law_cell_at", none), "_law_cell_at", "_law_cell_at", defArgs st_L_cell_at, defBody st_L_cell_at, defScope st_L_cell_at, [], []⟩, ⟨("_law_next", none), "_law_next", "_law_next", defArgs st_L_next, defBody st_L_next, defScope st_L_next, [], []⟩, ⟨("_law_pen_of", none), "_law_pen_of", "_law_pen_of", defArgs st_L_pen_of, defBody st_L_pen_of, defScope st_L_pen_of, [], []⟩, ⟨("_law_draw", none), "_law_draw", "_law_draw", defArgs st_L_draw, defBody st_L_draw, defScope st_L_draw, [], []⟩, ⟨("_law_whole", none), "_law_whole", "_law_whole", defArgs st_L_whole, defBody st_L_whole, defScope st_L_whole, [], []⟩, ⟨("_law_kind_of", none), "_law_kind_of", "_law_kind_of", defArgs st_L_kind_of, defBody st_L_kind_of, defScope st_L_kind_of, [], []⟩, ⟨("_law_grown", none), "_law_grown", "_law_grown", defArgs st_L_grown, defBody st_L_grown, defScope st_L_grown, [], []⟩, ⟨("_law_told", none), "_law_told", "_law_told", defArgs st_L_told, defBody st_L_told, defScope st_L_told, [], []⟩, ⟨("law", none), "law", "law", defArgs st_L_law, defBody st_L_law, defScope st_L_law, [], []⟩]
theorem law_ok {P : Program} {w : World} {K : PySem.W.Frag} {h : Heap} {mg : Str → Option Value} (X : K.In h) (G : h.Ns mainGlobals mg) (c : SaysN fx dfs K) (base : Heap) {fd : FuncData} (F : FunP K "law" st_L_law fd) : OkF P w K mg base false 7 "law" fd ["_law_script"] S_L_law := by
  obtain ⟨T, B⟩ := txt_of X G c.fact
  obtain ⟨fd0, F0⟩ := c.def_ 0 rfl
  have D_P_is_whole : Df P w K mg base false 1 "is_whole" 1 S_P_is_whole := (ok_P_is_whole T F0 B.g_P_is_whole ).imp se_P_is_whole
  obtain ⟨fd1, F1⟩ := c.def_ 1 rfl
  have D_P_is_upto : Df P w K mg base false 2 "is_upto" 3 S_P_is_upto := (ok_P_is_upto T F1 B.g_P_is_upto D_P_is_whole).imp se_P_is_upto
  obtain ⟨fd2, F2⟩ := c.def_ 2 rfl
  have D_P_check_number : Df P w K mg base false 3 "check_number" 3 S_P_check_number := (ok_P_check_number T F2 B.g_P_check_number D_P_is_upto).imp se_P_check_number
  obtain ⟨fd3, F3⟩ := c.def_ 3 rfl
  have D_P_check_wanted : Df P w K mg base false 4 "check_wanted" 2 S_P_check_wanted := (ok_P_check_wanted T F3 B.g_P_check_wanted D_P_check_number).imp se_P_check_wanted
  obtain ⟨fd4, F4⟩ := c.def_ 4 rfl
  have D_P_grown : Df P w K mg base false 1 "grown" 2 S_P_grown := (ok_P_grown T F4 B.g_P_grown ).imp se_P_grown
  obtain ⟨fd5, F5⟩ := c.def_ 5 rfl
  have D_P_least_by_growth : Df P w K mg base false 5 "least_by_growth" 2 S_P_least_by_growth := (ok_P_least_by_growth T F5 B.g_P_least_by_growth D_P_check_wanted D_P_grown).imp se_P_least_by_growth
  obtain ⟨fd6, F6⟩ := c.def_ 6 rfl
  have D_P_least_fit : Df P w K mg base false 5 "least_fit" 2 S_P_least_fit := (ok_P_least_fit T F6 B.g_P_least_fit D_P_check_wanted D_P_grown).imp se_P_least_fit
  obtain ⟨fd7, F7⟩ := c.def_ 7 rfl
  have D_L_cell_at : Df P w K mg base false 1 "_law_cell_at" 2 S_L_cell_at := (ok_L_cell_at T F7 B.g_L_cell_at ).imp se_L_cell_at
  obtain ⟨fd8, F8⟩ := c.def_ 8 rfl
  have D_L_next : Df P w K mg base false 1 "_law_next" 1 S_L_next := (ok_L_next T F8 B.g_L_next ).imp se_L_next
  obtain ⟨fd9, F9⟩ := c.def_ 9 rfl
  have D_L_pen_of : Df P w K mg base false 1 "_law_pen_of" 1 S_L_pen_of := (ok_L_pen_of T F9 B.g_L_pen_of ).imp se_L_pen_of
  obtain ⟨fd10, F10⟩ := c.def_ 10 rfl
  have D_L_draw : Df P w K mg base false 2 "_law_draw" 2 S_L_draw := (ok_L_draw T F10 B.g_L_draw D_L_next).imp se_L_draw
  obtain ⟨fd11, F11⟩ := c.def_ 11 rfl
  have D_L_whole : Df P w K mg base true 1 "_law_whole" 1 S_L_whole := (ok_L_whole T F11 B.g_L_whole ).imp se_L_whole
  obtain ⟨fd12, F12⟩ := c.def_ 12 rfl
  have D_L_kind_of : Df P w K mg base true 1 "_law_kind_of" 1 S_L_kind_of := (ok_L_kind_of T F12 B.g_L_kind_of ).imp se_L_kind_of
  obtain ⟨fd13, F13⟩ := c.def_ 13 rfl
  have D_L_grown : Df P w K mg base false 1 "_law_grown" 2 S_L_grown := (ok_L_grown T F13 B.g_L_grown ).imp se_L_grown
  obtain ⟨fd14, F14⟩ := c.def_ 14 rfl
  have D_L_told : Df P w K mg base false 6 "_law_told" 3 S_L_told := (ok_L_told T F14 B.g_L_told D_L_kind_of D_P_least_by_growth D_P_least_fit).imp se_L_told
  exact (ok_L_law T F D_L_pen_of D_L_grown D_L_cell_at D_L_draw D_L_told).imp se_L_law
abbrev Rr : PySem.W.OpenRow := PySem.W.OpenLaw.row PySem.Challenge.rw_noshortring_k17_bounds_by_growth
abbrev hk : PySem.W.Hook := hookN 5 fx dfs
def ob (s : PySem.W.SharedT) : He.AlD := obsNG 5 fx dfs (HandSHeadRun.getT s)
theorem ob_eq (s : PySem.W.SharedT) : ob s = hk.obs s.abs := obsNG_eq (HandSHeadRun.getT_eq s)
def nm0 : List Str := ["RingError", "NoPlace", "NoNumber", "NoLine", "NoRing", "NotEven", "NoWeb", "NoText", "TooGreat", "MOST_PLACES", "is_whole", "is_upto", "check_number", "check_wanted", "grown", "least_by_growth", "least_fit", "_law_cell_at", "_law_next", "_law_pen_of", "_law_draw", "_law_whole", "_law_kind_of", "_law_grown", "_law_told"]
abbrev nms : List Str := nm0
theorem run (w : World) : HandSHeadRun.RunEq Rr (PySem.W.view Rr.prog [29]) hk ob 8800 nms w := by
  intro os
  kernel_rfl
theorem then_step {x y : VOu} {v : VEnv} {o : OEnv} {f : VEnv → OEnv → VOu} (h : x = .nx v o) (h2 : f v o = y) : thenV x f = y := by
  rw [h]
  exact h2
theorem end_rt {x : VOu} {d : D} (h : ∃ o, x = .rt d o) : endV x = .ok d := by
  obtain ⟨o, h⟩ := h
  rw [h]
  rfl
def odds : List D := [.int 1, .int 16, .int 0, .int (-1), .bl true, .non, .str "3", .tup [.int 3], .int (10 ^ Int.toNat 30)]
def fars : List D := [.int 2, .int 17, .int 0, .int (-1), .bl true, .non, .str "3", .tup [.int 3], .int (10 ^ Int.toNat 30)]
def isNum : Ro D → Bool
  | .ok (.str x) => x == "number"
  | _ => false
theorem isNum_eq {r : Ro D} (h : isNum r = true) : r = .ok (.str "number") := by
  unfold isNum at h
  split at h
  · rw [eq_of_beq h]
  · cases h
theorem told_all : ((rngD 0 2).all fun w => odds.all fun x => (rngD 3 14 ++ fars).all fun y => isNum (F_L_told [w, x, y])) = true := by decide +kernel
theorem told_far : ((rngD 0 2).all fun w => fars.all fun y => (rngD 2 14).all fun x => isNum (F_L_told [w, x, y])) = true := by decide +kernel
theorem mem_at {l : List D} {z : Int} {n : Nat} (hl : l.length = n) (h0 : 0 ≤ z) (h : z < n) : ∃ d, atV l z = some d ∧ d ∈ l := by
  unfold atV
  rw [if_pos h0, List.getElem?_eq_getElem (by omega)]
  exact ⟨_, rfl, List.getElem_mem _⟩
theorem rng_in {lo : Int} {n : Nat} {z : Int} (h0 : 0 ≤ z) (h : z < n) : D.int (lo + z) ∈ rngD lo n := by
  unfold rngD
  exact List.mem_map.mpr ⟨z.toNat, List.mem_range.mpr (by omega), by rw [Int.toNat_of_nonneg h0]⟩
theorem num3 : neV (.lst [.str "number", .str "number", .str "number"]) (.lst (List.replicate (Int.toNat 3) [.str "number"]).flatten) = some (.bl false) := by kernel_rfl
theorem fin (ns : List Int) (h : ns.length ≤ 63) : F_L_law [.fro (ns.map D.int)] = .ok (.bl true) := by
  unfold F_L_law
  rw [w_def, if_pos (by rfl)]
  apply end_rt
  have e0 : (List.map some [D.fro (ns.map D.int)] ++ List.replicate (11 - [D.fro (ns.map D.int)].length) none) = [some (D.fro (ns.map D.int)), none, none, none, none, none, none, none, none, none, none] := rfl
  rw [e0]
  generalize hs : D.fro (ns.map D.int) = s0
  unfold V_L_law
  rw [w_seq]
  suffices q : ∀ v o, v = [some s0, some (.int 15), some (.int 16), some (.int 227044470), some (.lst [.int 227044470]), none, none, none, none, none, none] → o = List.replicate 11 none → ∃ o', vSeq (vFor _ _ _) _ v o = .rt (.bl true) o' by
    obtain ⟨o', q⟩ := q _ _ rfl rfl
    exact ⟨o', then_step (by kernel_rfl) q⟩
  rintro v o rfl rfl
  subst hs
  obtain ⟨cs, hcs⟩ := cells_of (k := 4) (v := [some (.fro (ns.map D.int)), some (.int 15), some (.int 16), some (.int 227044470), some (.lst [.int 227044470]), none, none, none, none, none, none]) (o := []) h rfl
  rw [w_seq, w_for, hcs, w_toV]
  refine loopV_all (fun y => ∃ o', thenV y _ = .rt (.bl true) o') (fun v o => (∃ a b c d e f g i j : Option D, v = [some (.fro (ns.map D.int)), a, b, c, d, e, none, f, g, i, j]) ∧ ∃ p, o = [none, none, none, none, none, none, p, none, none, none, none]) ⟨⟨_, _, _, _, _, _, _, _, _, rfl⟩, _, rfl⟩ ?_ ?_
  · rintro d v o hd ⟨⟨a, b, c, d', e, f, g, i, j, rfl⟩, p, rfl⟩
    obtain ⟨c0, _, rfl⟩ := List.mem_map.mp hd
    obtain ⟨z1, l1, h1, b1, b1', q1⟩ := f_L_draw (pen_of c0) (n := 14) (by omega) (by omega)
    obtain ⟨z2, l2, h2, b2, b2', q2⟩ := f_L_draw q1 (n := 14) (by omega) (by omega)
    obtain ⟨z3, l3, h3, b3, b3', q3⟩ := f_L_draw q2 (n := 9) (by omega) (by omega)
    obtain ⟨z4, l4, h4, b4, b4', q4⟩ := f_L_draw q3 (n := 9) (by omega) (by omega)
    obtain ⟨x, x1, x2⟩ := mem_at (l := odds) (n := 9) rfl b3 b3'
    obtain ⟨y, y1, y2⟩ := mem_at (l := fars) (n := 9) rfl b4 b4'
    have x1 : atV [.int 1, .int 16, .int 0, .int (-1), .bl true, .non, .str "3", .tup [.int 3], .int (10 ^ Int.toNat 30)] z3 = some x := x1
    have y1 : atV [.int 2, .int 17, .int 0, .int (-1), .bl true, .non, .str "3", .tup [.int 3], .int (10 ^ Int.toNat 30)] z4 = some y := y1
    simp (decide := true) only [w_gN, w_tgt, w_seq, w_new, w_call, w_cons, w_var, w_nil, List.set_cons_succ, List.set_cons_zero, List.getElem?_cons_succ, List.getElem?_cons_zero, w_gtV, r_bind_ok, List.length_cons, List.length_nil, if_true, f_L_pen_of, w_toV, w_new', w_then, w_setL, w_lCB, w_lCons, w_lOp, w_lQ, w_c, w_lCallP, w_lpHere, w_lph, w_lNil, w_lcp, List.nil_append, h1, h2, h3, h4, w_toL, w_gT, w_gC, w_gNl, w_toG, p_add, r_ofO, p_tup, w_cb, p_lst, w_un, w_op, p_neg, p_pow, p_ixL, x1, y1, w_for, w_rng1, w_rng1']
    refine loopV_all _ (fun v o => (∃ c d' i : Option D, v = [some (.fro (ns.map D.int)), some (.int (2 + z1)), some (.int (3 + z2)), c, d', some (.int c0), none, some x, some y, i, j]) ∧ ∃ p, o = [none, none, none, none, none, none, p, none, none, none, none]) ⟨⟨_, _, _, rfl⟩, _, rfl⟩ ?_ ?_
    · rintro d v o hd ⟨⟨c, d', i, rfl⟩, p, rfl⟩
      have t1 : F_L_told [d, x, .int (3 + z2)] = .ok (.str "number") := isNum_eq (List.all_eq_true.mp (List.all_eq_true.mp (List.all_eq_true.mp told_all d hd) x x2) _ (List.mem_append_left _ (rng_in b2 b2')))
      have t2 : F_L_told [d, x, y] = .ok (.str "number") := isNum_eq (List.all_eq_true.mp (List.all_eq_true.mp (List.all_eq_true.mp told_all d hd) x x2) _ (List.mem_append_right _ y2))
      have t3 : F_L_told [d, .int (2 + z1), y] = .ok (.str "number") := isNum_eq (List.all_eq_true.mp (List.all_eq_true.mp (List.all_eq_true.mp told_far d hd) y y2) _ (rng_in b1 b1'))
      simp (decide := true) only [w_gN, w_tgt, List.set_cons_succ, List.set_cons_zero, w_ifS, w_tst, w_op, w_cb, w_cons, w_call, w_var, w_nil, List.getElem?_cons_succ, List.getElem?_cons_zero, w_gtV, r_bind_ok, List.length_cons, List.length_nil, if_true, t1, t2, t3, p_lst, r_ofO, w_c, p_mulL]
      rw [num3]
      exact ⟨⟨_, _, _, rfl⟩, _, rfl⟩
    · rintro v o ⟨⟨c, d', i, rfl⟩, p, rfl⟩
      exact ⟨⟨_, _, _, _, _, _, _, _, _, rfl⟩, _, rfl⟩
  · rintro v o ⟨⟨a, b, c, d', e, f, g, i, j, rfl⟩, p, rfl⟩
    exact ⟨_, rfl⟩

theorem plain (ns : List Int) (h : ns.length ≤ 63) : ∃ m, S_L_law [.ref 0] [.fro (ns.map W.int)] = .ok (.bl true) m := by
  have q := q_L_law (fun _ => False) [.fro (ns.map W.int)] [.ref 0] [.fro (ns.map D.int)] (fun _ z => z.elim) (.cons (.fro (fun z => z) rfl (ints_view ns)) .nil)
  rw [fin ns h] at q
  obtain ⟨w, r, e, hv⟩ := q
  cases hv
  exact ⟨_, e⟩
end Nw.K17
open PySem PySem.W PySem.Calls PyProof.Rows
theorem PySem.Challenge.cw_noshortring_k17_bounds_by_growth_holds : PySem.Challenge.rw_noshortring_k17_bounds_by_growth.Holds := by
  w_on; o_law
  refine HandSHeadRun.head_any (r := OpenLaw.row PySem.Challenge.rw_noshortring_k17_bounds_by_growth) (q := view (OpenLaw.row PySem.Challenge.rw_noshortring_k17_bounds_by_growth).prog [29]) (H := Nw.K17.hk) (ob := Nw.K17.ob) (M := 8800) (loose := Nw.K17.nms) (d := HandSHeadRun.topDef (OpenLaw.row PySem.Challenge.rw_noshortring_k17_bounds_by_growth).prog 29) (kwd := []) Nw.K17.ob_eq
    (by kernel_rfl) (fun s => by kernel_rfl) Nw.K17.run (by kernel_rfl) (by kernel_rfl) (by kernel_rfl) (by rfl) (by first | assumption | decide +kernel) (by decide +kernel) ⟨rfl, rfl, rfl, rfl, rfl, by decide +kernel⟩ ?hw ?hc
  case hw => w_witness2
  case hc =>
    refine Nw.walk_nw (l := PySem.Challenge.rw_noshortring_k17_bounds_by_growth) (n := 63) (k := 7) (x := "law") (y := "_law_script") (den := Nw.K17.S_L_law) rfl (by decide) (by kernel_rfl) (by kernel_rfl) ⟨by decide, by decide, rfl, fun _ => rfl⟩ ?F Nw.K17.plain
    intro w mg h Y G
    obtain ⟨K, KX, c⟩ := Y
    obtain ⟨fd0, F0⟩ := c.def_ 15 rfl
    obtain ⟨_, B⟩ := Nw.K17.txt_of KX G c.fact
    exact ⟨K, fd0, false, KX, B.g_L_law, fun s u => L2.FunD.bindsA (ps := ["_law_script"]) F0 (fun _ _ _ _ _ _ us hl => match us, hl with | [_], _ => rfl) s [u] rfl, fun base X1 G1 => Nw.K17.law_ok X1 G1 c base F0⟩
