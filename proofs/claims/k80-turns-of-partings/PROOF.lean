import PyProof.Rows.All
import Wide.All
import OpenK.AllK
import Wide.FinOn
import HandS.ForMost
import HandS.Exc
import HandS.Slots
import KE.KeyNested
import HandS.ForExc
import HandS.Wide
import HandS.TupAny
import HandS.Deep
import HandS.TupMul
import HandS.Style
import HandS.Flow
import KE.GoesEnum
import KE.GoesNew
import HandS.Iter
import HandS.Rev
import HandS.CallSlots
import HandS.Defaults
import HandS.IsInst
import HandS.SlotsOwn
import HandS.Gcd
import HandS.SortInts
import KE.KMathGC
import KE.KTupSum
import KE.SortData
import KE.DataMinMax
import KE.DataCmp
import HandS.Text
import PyProof.Rows.RegReprOcc
import HandS.Dict
import KE.GoesDict
import KE.KDictCopyH
import HandS.Conv
import HandS.TupLen
import KE.KDictPairs
import HandS.DictComp
import HandS.Star
import HandS.HeadHook2
import HandS.Head0
import HandS.Head1
import HandS.Head2
import HandS.HeadEnd
import HandS.HeadHook1
import HandS.HeadHook3
import HandS.HeadHook4
import HandS.HeadWalk
import HandS.Head3
import PySem.Challenge.RW_slantways_k80_whole_turns_of_partings
set_option Elab.async false
set_option linter.all false
set_option maxRecDepth 100000
set_option maxHeartbeats 4000000
section
/-! The evaluation side: deep values, combinators. Written to be run by the kernel. -/
namespace SW
/-- a value: what never changes (lists that no one changes any more too); ref: a cell of the small heap -/
inductive DV where
  | non | bl (b : Bool) | int (i : Int) | str (s : List Nat) | tup (l : List DV) | lst (l : List DV) | ins (c : Nat) (l : List DV) | rng (lo hi : Int) | ref (i : Nat)
inductive Out where
  | ret (d : DV) | exc (c : Nat) (l : List DV)
/-- a cell -/
inductive MO where
  | lst (n : Nat) (l : List DV)
  | dic (b : Bool) (l : List (DV × DV))
  | obj (c : Nat) (l : List (Option DV))
  | dice
  | dead
  | gone
abbrev A := Option Out
abbrev St := List (Option DV)
abbrev CH := List MO
abbrev K := DV → CH → A
abbrev KX := Nat → List DV → CH → A
abbrev Code := St → CH → K → KX → A
abbrev KL := List DV → CH → A
abbrev LCode := St → CH → KL → KX → A
abbrev TCode := St → CH → (CH → A) → (CH → A) → KX → A
/-- what follows a statement, but the plain next -/
structure KS where
  rt : K
  bk : St → CH → A
  ct : St → CH → A
  xc : St → KX
abbrev KN := St → CH → A
abbrev SCode := St → CH → KN → KS → A
abbrev FCode := List DV → CH → K → KX → A
abbrev Op2 := DV → DV → CH → K → A
abbrev Op1 := DV → CH → K → A
abbrev OpL := List DV → CH → K → A
def none3 : St → CH → A := fun _ _ => none
def noX : KX := fun _ _ _ => none

/-! ### eliminators, none for all other kinds -/
noncomputable section
def dBl (d : DV) (f : Bool → A) : A := @DV.rec (fun _ => (Bool → A) → A) (fun _ => Unit) (fun _ => none) (fun b f => f b) (fun _ _ => none) (fun _ _ => none) (fun _ _ _ => none) (fun _ _ _ => none) (fun _ _ _ _ => none) (fun _ _ _ => none) (fun _ _ => none) () (fun _ _ _ _ => ()) d f
def dInt (d : DV) (f : Int → A) : A := @DV.rec (fun _ => (Int → A) → A) (fun _ => Unit) (fun _ => none) (fun _ _ => none) (fun i f => f i) (fun _ _ => none) (fun _ _ _ => none) (fun _ _ _ => none) (fun _ _ _ _ => none) (fun _ _ _ => none) (fun _ _ => none) () (fun _ _ _ _ => ()) d f
def dStr (d : DV) (f : List Nat → A) : A := @DV.rec (fun _ => (List Nat → A) → A) (fun _ => Unit) (fun _ => none) (fun _ _ => none) (fun _ _ => none) (fun s f => f s) (fun _ _ _ => none) (fun _ _ _ => none) (fun _ _ _ _ => none) (fun _ _ _ => none) (fun _ _ => none) () (fun _ _ _ _ => ()) d f
def dTup (d : DV) (f : List DV → A) : A := @DV.rec (fun _ => (List DV → A) → A) (fun _ => Unit) (fun _ => none) (fun _ _ => none) (fun _ _ => none) (fun _ _ => none) (fun l _ f => f l) (fun _ _ _ => none) (fun _ _ _ _ => none) (fun _ _ _ => none) (fun _ _ => none) () (fun _ _ _ _ => ()) d f
def dIns (d : DV) (f : Nat → List DV → A) : A := @DV.rec (fun _ => (Nat → List DV → A) → A) (fun _ => Unit) (fun _ => none) (fun _ _ => none) (fun _ _ => none) (fun _ _ => none) (fun _ _ _ => none) (fun _ _ _ => none) (fun c l _ f => f c l) (fun _ _ _ => none) (fun _ _ => none) () (fun _ _ _ _ => ()) d f
/-- no cell's name -/
def nr (d : DV) : Bool := @DV.rec (fun _ => Bool) (fun _ => Unit) true (fun _ => true) (fun _ => true) (fun _ => true) (fun _ _ => true) (fun _ _ => true) (fun _ _ _ => true) (fun _ _ => true) (fun _ => false) () (fun _ _ _ _ => ()) d
/-- a Bool's two ways -/
def bsel (b : Bool) (x y : A) : A := @Bool.rec (fun _ => A → A → A) (fun _ y => y) (fun x _ => x) b x y
def dTest (d : DV) (x y : A) : A := dBl d fun b => bsel b x y
/-- a list's ways -/
def onSome {α : Type} (o : Option α) (f : α → A) : A := @Option.rec α (fun _ => (α → A) → A) (fun _ => none) (fun a f => f a) o f
/-- the item at a place -/
def nthK {α : Type} (l : List α) (n : Nat) (k : α → A) : A :=
  @List.rec α (fun _ => Nat → (α → A) → A) (fun _ _ => none) (fun x _ ih n => @Nat.rec (fun _ => (Nat → (α → A) → A) → (α → A) → A) (fun _ k => k x) (fun m _ ih => ih m) n ih) l n k
/-- a list with another item at a place, forced -/
def putZ {α : Type} (x : α) (xs : List α) (ih : Nat → α → (List α → A) → A) (v : α) (k : List α → A) : A := k (v :: xs)
def putS {α : Type} (x : α) (xs : List α) (ih : Nat → α → (List α → A) → A) (m : Nat) (v : α) (k : List α → A) : A := ih m v fun l => k (x :: l)
def putK {α : Type} (l : List α) (n : Nat) (v : α) (k : List α → A) : A :=
  @List.rec α (fun _ => Nat → α → (List α → A) → A) (fun _ _ _ => none) (fun x xs ih n => @Nat.rec (fun _ => α → (List α → A) → A) (putZ x xs ih) (fun m _ => putS x xs ih m) n) l n v k
/-- x :: xs ++ ys, forced -/
def appC {α : Type} (x : α) (ih : List α → (List α → A) → A) (ys : List α) (k : List α → A) : A := ih ys fun l => k (x :: l)
def appK {α : Type} (xs ys : List α) (k : List α → A) : A := @List.rec α (fun _ => List α → (List α → A) → A) (fun ys k => k ys) (fun x _ ih => appC x ih) xs ys k
def revC {α : Type} (x : α) (ih : List α → (List α → A) → A) (ys : List α) (k : List α → A) : A := ih (x :: ys) k
/-- xs reversed, ahead of ys -/
def revK {α : Type} (xs ys : List α) (k : List α → A) : A := @List.rec α (fun _ => List α → (List α → A) → A) (fun ys k => k ys) (fun x _ ih => revC x ih) xs ys k
def lenC (ih : Nat → (Nat → A) → A) (n : Nat) (k : Nat → A) : A := ih (Nat.succ n) k
def forceZ (k : Nat → A) : A := k 0
def forceS (m : Nat) (k : Nat → A) : A := k (Nat.succ m)
def forceN (n : Nat) (k : Nat → A) : A := @Nat.rec (fun _ => (Nat → A) → A) forceZ (fun m _ => forceS m) n k
def lenK {α : Type} (xs : List α) (n : Nat) (k : Nat → A) : A := @List.rec α (fun _ => Nat → (Nat → A) → A) forceN (fun _ _ ih => lenC ih) xs n k
/-! ### ints -/
def forceI1 (n : Nat) (k : Int → A) : A := forceN n fun n => k (.ofNat n)
def forceI2 (n : Nat) (k : Int → A) : A := forceN n fun n => k (.negSucc n)
def forceI (i : Int) (k : Int → A) : A := @Int.rec (fun _ => (Int → A) → A) forceI1 forceI2 i k
def i2 {α : Type} (pp pn np nn : Nat → Nat → α) (i j : Int) : α := @Int.rec (fun _ => Int → α) (fun a j => @Int.rec (fun _ => Nat → α) (fun b a => pp a b) (fun b a => pn a b) j a) (fun a j => @Int.rec (fun _ => Nat → α) (fun b a => np a b) (fun b a => nn a b) j a) i j
def iAdd : Int → Int → Int := i2 (fun a b => .ofNat (Nat.add a b)) (fun a b => Int.subNatNat a (Nat.succ b)) (fun a b => Int.subNatNat b (Nat.succ a)) (fun a b => .negSucc (Nat.succ (Nat.add a b)))
def iSub : Int → Int → Int := i2 (fun a b => Int.subNatNat a b) (fun a b => .ofNat (Nat.add a (Nat.succ b))) (fun a b => .negSucc (Nat.add a b)) (fun a b => Int.subNatNat b a)
def iMul : Int → Int → Int := i2 (fun a b => .ofNat (Nat.mul a b)) (fun a b => Int.negOfNat (Nat.mul a (Nat.succ b))) (fun a b => Int.negOfNat (Nat.mul (Nat.succ a) b)) (fun a b => .ofNat (Nat.mul (Nat.succ a) (Nat.succ b)))
def iLt : Int → Int → Bool := i2 (fun a b => Nat.blt a b) (fun _ _ => false) (fun _ _ => true) (fun a b => Nat.blt b a)
def iLe : Int → Int → Bool := i2 (fun a b => Nat.ble a b) (fun _ _ => false) (fun _ _ => true) (fun a b => Nat.ble b a)
def iEq : Int → Int → Bool := i2 (fun a b => Nat.beq a b) (fun _ _ => false) (fun _ _ => false) (fun a b => Nat.beq b a)
/-- by a divisor above 0 -/
def iDiv : Int → Int → Int := i2 (fun a b => .ofNat (Nat.div a b)) (fun a b => (Int.ofNat a) / (Int.negSucc b)) (fun a b => .negSucc (Nat.div a b)) (fun a b => (Int.negSucc a) / (Int.negSucc b))
def iMod : Int → Int → Int := i2 (fun a b => .ofNat (Nat.mod a b)) (fun a b => Int.emod (.ofNat a) (.negSucc b)) (fun a b => Int.subNatNat b (Nat.succ (Nat.mod a b))) (fun a b => Int.emod (.negSucc a) (.negSucc b))
def iNeg (i : Int) : Int := @Int.rec (fun _ => Int) (fun a => Int.negOfNat a) (fun a => .ofNat (Nat.succ a)) i
end
end SW
end
section
/-! What stands behind the small heap's values: relations to the layer's values and abstract heap. -/
namespace SW
open PySem PySem.Spec PyProof.Rows L2 SlX

/-- a text of signs -/
abbrev tx (s : List Nat) : Str := ⟨s.toArray⟩
/-- the bound of all lengths -/
abbrev mx : Nat := 1000000
def sOk (s : List Nat) : Prop := s.length ≤ mx ∧ ∀ c ∈ s, c < 1114112
/-- where the own classes stand -/
structure Tab where
  w : World
  cls : Nat → Addr
  nsl : Nat → Nat
  exc : Nat → Addr
  exf : Nat → List Str
  /-- a list of the written part, the script -/
  scr : Addr → List Int → Prop
abbrev Fz := Addr → Prop
/-- an int that is not known: from lo to hi - 1; or by its rest modulo -hi (with lo at least 0: a bounded one) -/
def rngP (lo hi i : Int) : Prop := (lo < hi ∧ lo ≤ i ∧ i < hi) ∨ (hi ≤ lo ∧ hi < 0 ∧ i % (-hi) = lo % (-hi) ∧ (0 ≤ lo → -(10 ^ 50) < i ∧ i < 10 ^ 50))
variable (T : Tab)
mutual
/-- a value that never changes -/
inductive RVI (F : Fz) (H : Hp) : DV → V → Prop
  | non : RVI F H .non .non
  | bl (b : Bool) : RVI F H (.bl b) (.bl b)
  | int (i : Int) : RVI F H (.int i) (.int i)
  | str {s : List Nat} : sOk s → RVI F H (.str s) (.str (tx s))
  | tup {l vs a} : F a → H a = some (.tup vs) → RVs F H l vs → l.length ≤ mx → RVI F H (.tup l) (.ref a)
  | lst {l vs a} : F a → H a = some (.lst vs) → RVs F H l vs → l.length ≤ mx → RVI F H (.lst l) (.ref a)
  | ins {c l vs a dx} : F a → F dx → H a = some (SlO a (T.cls c) dx (vs.map some)) → H dx = some (.xd []) → RVs F H l vs → l.length = T.nsl c → RVI F H (.ins c l) (.ref a)
  | rng {lo hi i} : rngP lo hi i → RVI F H (.rng lo hi) (.int i)
  | scr {a : Addr} {o : Obj} {ns : List Int} : F a → H a = some (.frz o (.lst (ns.map V.int))) → ns.length ≤ 63 → RVI F H (.rng 0 0) (.ref a)
  | scrK {a : Addr} {ns : List Int} : T.scr a ns → ns.length ≤ 63 → RVI F H (.rng 0 0) (.ref a)
inductive RVs (F : Fz) (H : Hp) : List DV → List V → Prop
  | nil : RVs F H [] []
  | cons {d v l vs} : RVI F H d v → RVs F H l vs → RVs F H (d :: l) (v :: vs)
end
variable {T}
/-- a value, or a cell's name -/
inductive RV (T : Tab) (ρ : List Addr) (F : Fz) (H : Hp) : DV → V → Prop
  | imm {d v} : RVI T F H d v → RV T ρ F H d v
  | ref {i a} : ρ[i]? = some a → RV T ρ F H (.ref i) (.ref a)
/-- lists of them -/
abbrev RVl (T : Tab) (ρ : List Addr) (F : Fz) (H : Hp) : List DV → List V → Prop := Paired (RV T ρ F H)
/-- slots -/
def RSl (T : Tab) (ρ : List Addr) (F : Fz) (H : Hp) (s : SW.St) (σ : L2.St) : Prop :=
  s.length = σ.length ∧ ∀ (i : Nat) (d : DV), s[i]? = some (some d) → ∃ v, σ[i]? = some (some v) ∧ RV T ρ F H d v

/-- a key, as the library tells it -/
def toNK : DV → NestedKey
  | .bl b => .num (if b = true then 1 else 0)
  | .int i => .num i
  | .str s => .text (tx s)
  | .tup l => .tup (toNKs l)
  | _ => .none
where toNKs : List DV → List NestedKey
  | [] => []
  | d :: l => toNK d :: toNKs l
/-- exactly this object -/
abbrev obE (a : Addr) (o : Obj) : HO := .ext fun h => h.get? a = some o
/-- an entry of a dict -/
structure DEnt (T : Tab) (ρ : List Addr) (F : Fz) (H : Hp) (p : DV × DV) (e : DictEntry) : Prop where
  key : ∃ v, RelV v e.key ∧ RVI T F H p.1 v
  hash : e.hash = (toNK p.1).hash T.w
  val : ∃ v, RelV v e.val ∧ RV T ρ F H p.2 v
/-- a key: None, truth values, ints, texts, tuples of these -/
noncomputable def kdep (d : DV) : Nat → Bool := @DV.rec (fun _ => Nat → Bool) (fun _ => Nat → Bool) (fun _ => true) (fun _ _ => true) (fun _ _ => true) (fun _ _ => true)
  (fun _ ih n => @Nat.rec (fun _ => Bool) false (fun m _ => ih m) n) (fun _ _ _ => false) (fun _ _ _ _ => false) (fun _ _ _ => false) (fun _ _ => false)
  (fun _ => true) (fun _ _ a b n => @Bool.rec (fun _ => Bool) false (b n) (a n)) d
/-- keys that are tuples; keys that are ints and texts -/
def kTup : DV → Bool
  | .tup _ => true
  | _ => false
def kSc : DV → Bool
  | .int _ => true
  | .str _ => true
  | _ => false
/-- what a dict's object holds -/
structure DOk (T : Tab) (ρ : List Addr) (F : Fz) (H : Hp) (a : Addr) (l : List (DV × DV)) : Prop where
  sm : (a == sysModules) = false
  len : l.length ≤ mx
  nod : (l.map fun p => toNK p.1).Nodup
  kc : (∀ p ∈ l, kTup p.1 = true ∧ kdep p.1 8 = true) ∨ ∀ p ∈ l, kSc p.1 = true
  obj : ∃ o es ep, H a = some (obE a o) ∧ o.ExactDict ∧ o.data = .dict es ep ∧ Paired (DEnt T ρ F H) l es.toList
/-- no lock -/
def unl : MO → Bool
  | .dic b _ => !b
  | .gone => false
  | _ => true
/-- a cell at a, the i-th -/
def MOk (T : Tab) (ρ : List Addr) (F : Fz) (H : Hp) (i : Nat) (a : Addr) : MO → Prop
  | .lst n l => l.length ≤ n ∧ n ≤ mx ∧ ∃ vs, H a = some (.lst vs) ∧ RVl T ρ F H l vs
  | .dic b l => (b = true → F a) ∧ DOk T ρ F H a l
  | .obj c l => ∃ dx vs, ρ[i + 1]? = some dx ∧ dx ≠ a ∧ Slt H a (T.cls c) dx vs ∧ (l.length = T.nsl c ∧ vs.length ≤ l.length) ∧ ∀ (j : Nat) (d : DV), l[j]? = some (some d) → ∃ v, vs[j]? = some (some v) ∧ RVI T F H d v
  | .dice => ∃ x y z : Int, H a = some (.lst [.int x, .int y, .int z])
  | .dead => True
  | .gone => True
/-- the small heap -/
structure Rep (T : Tab) (ρ : List Addr) (F : Fz) (H : Hp) (h : CH) : Prop where
  nod : ρ.Nodup
  trk : ∀ a ∈ ρ, H a ≠ none
  nf : ∀ (i : Nat) (a : Addr) (mo : MO), ρ[i]? = some a → h[i]? = some mo → unl mo = true → ¬ F a
  ft : ∀ a, F a → H a ≠ none
  cells : ∀ i mo, h[i]? = some mo → ∃ a, ρ[i]? = some a ∧ MOk T ρ F H i a mo
  len : h.length = ρ.length
  dd : ∀ (i : Nat) c l, h[i]? = some (.obj c l) → h[i + 1]? = some .dead
/-- later: what is frozen stays, what is no cell stays -/
structure Le (ρ : List Addr) (F : Fz) (H : Hp) (ρ' : List Addr) (F' : Fz) (H' : Hp) : Prop where
  pre : ∃ t, ρ' = ρ ++ t ∧ ∀ a ∈ t, H a = none
  frm : ∀ a o, H a = some o → a ∉ ρ → H' a = some o
  trk : ∀ a, H a ≠ none → H' a ≠ none
  fz : ∀ a, F a → F' a
  fn : ∀ a, F' a → F a ∨ H a = none ∨ a ∈ ρ
  fr : ∀ a o, F a → H a = some o → H' a = some o
section
variable {ρ ρ1 ρ2 ρ' : List Addr} {F F1 F2 F' : Fz} {H H1 H2 H' : Hp} {h : CH}
theorem Le.refl : Le ρ F H ρ F H := ⟨⟨[], by simp, by simp⟩, fun _ _ e _ => e, fun _ h => h, fun _ h => h, fun _ h => .inl h, fun _ _ _ e => e⟩
theorem Le.trans (a : Le ρ F H ρ1 F1 H1) (b : Le ρ1 F1 H1 ρ2 F2 H2) : Le ρ F H ρ2 F2 H2 := by
  obtain ⟨t1, e1, n1⟩ := a.pre
  obtain ⟨t2, e2, n2⟩ := b.pre
  have back : ∀ x, H1 x = none → H x = none := fun x h => by
    cases q : H x with
    | none => rfl
    | some o => exact absurd h (a.trk x (by rw [q]; simp))
  refine ⟨⟨t1 ++ t2, by rw [e2, e1, List.append_assoc], fun x hx => ?_⟩, fun x o e nx => b.frm x o (a.frm x o e nx) ?_, fun x h => b.trk x (a.trk x h), fun x h => b.fz x (a.fz x h), fun x h => ?_, fun x o f e => b.fr x o (a.fz x f) (a.fr x o f e)⟩
  · rcases List.mem_append.mp hx with h | h
    · exact n1 x h
    · exact back x (n2 x h)
  · rw [e1]
    intro hm
    rcases List.mem_append.mp hm with h | h
    · exact nx h
    · rw [n1 x h] at e; cases e
  · rcases b.fn x h with h | h | h
    · exact a.fn x h
    · exact .inr (.inl (back x h))
    · rw [e1] at h
      rcases List.mem_append.mp h with h | h
      · exact .inr (.inr h)
      · exact .inr (.inl (n1 x h))
theorem Le.at (a : Le ρ F H ρ' F' H') {i : Nat} {x : Addr} (e : ρ[i]? = some x) : ρ'[i]? = some x := by
  obtain ⟨t, e1, _⟩ := a.pre
  rw [e1, List.getElem?_append_left (by
    by_cases h : i < ρ.length
    · exact h
    · rw [List.getElem?_eq_none (by omega)] at e; cases e)]
  exact e
mutual
theorem RVI.mono (a : ∀ x o, F x → H x = some o → H' x = some o) (b : ∀ x, F x → F' x) : ∀ {d v}, RVI T F H d v → RVI T F' H' d v
  | _, _, .non => .non
  | _, _, .bl _ => .bl _
  | _, _, .int _ => .int _
  | _, _, .str h => .str h
  | _, _, .tup f e r n => .tup (b _ f) (a _ _ f e) (RVs.mono a b r) n
  | _, _, .lst f e r n => .lst (b _ f) (a _ _ f e) (RVs.mono a b r) n
  | _, _, .ins f g e e2 r n => .ins (b _ f) (b _ g) (a _ _ f e) (a _ _ g e2) (RVs.mono a b r) n
  | _, _, .rng f => .rng f
  | _, _, .scr f e n => .scr (b _ f) (a _ _ f e) n
  | _, _, .scrK e n => .scrK e n
theorem RVs.mono (a : ∀ x o, F x → H x = some o → H' x = some o) (b : ∀ x, F x → F' x) : ∀ {l vs}, RVs T F H l vs → RVs T F' H' l vs
  | _, _, .nil => .nil
  | _, _, .cons r t => .cons (RVI.mono a b r) (RVs.mono a b t)
end
theorem RVI.le (a : Le ρ F H ρ' F' H') {d v} (r : RVI T F H d v) : RVI T F' H' d v := r.mono a.fr a.fz
theorem RVs.le (a : Le ρ F H ρ' F' H') {d v} (r : RVs T F H d v) : RVs T F' H' d v := r.mono a.fr a.fz
theorem RV.le (a : Le ρ F H ρ' F' H') {d v} : RV T ρ F H d v → RV T ρ' F' H' d v
  | .imm r => .imm (r.le a)
  | .ref e => .ref (a.at e)
theorem RVl.le (a : Le ρ F H ρ' F' H') {l vs} (r : RVl T ρ F H l vs) : RVl T ρ' F' H' l vs := Paired.mapP r fun _ _ q => q.le a
theorem RSl.le (a : Le ρ F H ρ' F' H') {s σ} (r : RSl T ρ F H s σ) : RSl T ρ' F' H' s σ := ⟨r.1, fun i d e => let ⟨v, e2, q⟩ := r.2 i d e; ⟨v, e2, q.le a⟩⟩
theorem RVs.length : ∀ {l vs}, RVs T F H l vs → l.length = vs.length
  | _, _, .nil => rfl
  | _, _, .cons _ t => congrArg (· + 1) (RVs.length t)
theorem RVs.pair : ∀ {l vs}, RVs T F H l vs → Paired (RVI T F H) l vs
  | _, _, .nil => .nil
  | _, _, .cons r t => .cons r (RVs.pair t)
theorem RVs.of : ∀ {l vs}, Paired (RVI T F H) l vs → RVs T F H l vs
  | _, _, .nil => .nil
  | _, _, .cons r t => .cons r (RVs.of t)
theorem nr_ref {i : Nat} : nr (.ref i) = false := rfl
theorem RV.imm_of {d v} (r : RV T ρ F H d v) (n : nr d = true) : RVI T F H d v := by
  cases r with
  | imm r => exact r
  | ref e => cases n
theorem RVI.nr {d v} (r : RVI T F H d v) : nr d = true := by cases r <;> rfl

theorem DEnt.mono (hf : ∀ x o, F x → H x = some o → H' x = some o) (fz : ∀ x, F x → F' x) (pr : ∀ {i : Nat} {x : Addr}, ρ[i]? = some x → ρ'[i]? = some x) {p : DV × DV} {e : DictEntry} (d : DEnt T ρ F H p e) : DEnt T ρ' F' H' p e := by
  have up : ∀ {d v}, RV T ρ F H d v → RV T ρ' F' H' d v := fun q => match q with
    | .imm r => .imm (r.mono hf fz)
    | .ref e => .ref (pr e)
  obtain ⟨⟨v, a, b⟩, c, u, d, e⟩ := d
  exact ⟨⟨v, a, b.mono hf fz⟩, c, u, d, up e⟩
theorem DOk.mono (hf : ∀ x o, F x → H x = some o → H' x = some o) (fz : ∀ x, F x → F' x) (pr : ∀ {i : Nat} {x : Addr}, ρ[i]? = some x → ρ'[i]? = some x) {a : Addr} {l : List (DV × DV)} (d : DOk T ρ F H a l) (e : H' a = H a) : DOk T ρ' F' H' a l := by
  obtain ⟨o, es, ep, h1, h2, h3, h4⟩ := d.obj
  exact ⟨d.sm, d.len, d.nod, d.kc, o, es, ep, e.trans h1, h2, h3, Paired.mapP h4 fun _ _ q => q.mono hf fz pr⟩
theorem DOk.le (a : Le ρ F H ρ' F' H') {x : Addr} {l : List (DV × DV)} (d : DOk T ρ F H x l) (e : H' x = H x) : DOk T ρ' F' H' x l := d.mono a.fr a.fz (fun q => a.at q) e
theorem Rep.same (r : Rep T ρ F H h) (a : Le ρ F H ρ F' H') (hr : ∀ x ∈ ρ, H' x = H x) (ft : ∀ x, F' x → H' x ≠ none) (fn : ∀ a, F' a → F a ∨ H a = none) : Rep T ρ F' H' h := by
  refine ⟨r.nod, fun x hx => by rw [hr x hx]; exact r.trk x hx, fun i x mo ex em u f => ?_, ft, fun i mo e => ?_, r.len, r.dd⟩
  · rcases fn x f with f | n
    · exact r.nf i x mo ex em u f
    · exact r.trk x (List.mem_of_getElem? ex) n
  · obtain ⟨x, ex, m⟩ := r.cells i mo e
    have hx : x ∈ ρ := List.mem_of_getElem? ex
    refine ⟨x, ex, ?_⟩
    cases mo with
    | dead => trivial
    | gone => trivial
    | lst n l => obtain ⟨b1, b2, vs, e1, q⟩ := m; exact ⟨b1, b2, vs, by rw [hr x hx]; exact e1, q.le a⟩
    | dic b l => exact ⟨fun z => a.fz x (m.1 z), m.2.le a (hr x hx)⟩
    | dice => obtain ⟨p, q, z, e1⟩ := m; exact ⟨p, q, z, by rw [hr x hx]; exact e1⟩
    | obj c l =>
      obtain ⟨dx, vs, ed, nd, sl, ln, q⟩ := m
      have hd : dx ∈ ρ := List.mem_of_getElem? ed
      refine ⟨dx, vs, ed, nd, ?_, ln, fun j d ej => let ⟨v, ev, rv⟩ := q j d ej; ⟨v, ev, rv.le a⟩⟩
      rcases sl with ⟨s1, s2⟩ | ⟨s1, s2⟩
      · exact .inl ⟨by rw [hr x hx]; exact s1, s2⟩
      · exact .inr ⟨by rw [hr x hx]; exact s1, by rw [hr dx hd]; exact s2⟩
/-- a new frozen object -/
def fzA (F : Fz) (p : Addr) : Fz := fun b => F b ∨ b = p
theorem upd_none {H : Hp} {p a : Addr} {o : HO} (h : upd H p o a = none) : H a = none := by
  unfold upd at h
  split at h
  · cases h
  · exact h
theorem Le.new {p : Addr} {o : HO} (hp : H p = none) : Le ρ F H ρ (fzA F p) (upd H p o) :=
  ⟨⟨[], by simp, by simp⟩, fun a u e _ => by rw [upd_ne (ne_of_none e hp)]; exact e, fun a h => fun z => h (upd_none z), fun a f => .inl f, fun a f => f.elim .inl fun e => .inr (.inl (by rw [e]; exact hp)), fun a u _ e => by rw [upd_ne (ne_of_none e hp)]; exact e⟩
theorem Rep.new {p : Addr} {o : HO} (r : Rep T ρ F H h) (hp : H p = none) : Rep T ρ (fzA F p) (upd H p o) h := by
  refine r.same (Le.new hp) (fun x hx => ?_) (fun x f => ?_) fun a f => f.elim .inl fun e => .inr (by rw [e]; exact hp)
  · refine upd_ne fun e => ?_
    rw [e] at hx
    exact r.trk p hx hp
  · rcases f with f | f
    · exact fun z => r.ft x f (upd_none z)
    · rw [f, upd_same]; simp
theorem fzA_self {F : Fz} {p : Addr} : fzA F p p := .inr rfl
/-- nothing of ours stands at an untracked place -/
theorem Rep.fresh {p : Addr} (r : Rep T ρ F H h) (hp : H p = none) : p ∉ ρ ∧ ¬ F p := ⟨fun hx => r.trk p hx hp, fun f => r.ft p f hp⟩
/-- a new cell -/
theorem Le.cell {p : Addr} {o : HO} (hp : H p = none) : Le ρ F H (ρ ++ [p]) F (upd H p o) :=
  ⟨⟨[p], rfl, fun a ha => by rw [List.mem_singleton.mp ha]; exact hp⟩, fun a u e _ => by rw [upd_ne (ne_of_none e hp)]; exact e, fun a h => fun z => h (upd_none z), fun a f => f, fun a f => .inl f, fun a u _ e => by rw [upd_ne (ne_of_none e hp)]; exact e⟩
theorem MOk.move {i : Nat} {x : Addr} {mo : MO} (m : MOk T ρ F H i x mo) (a : Le ρ F H ρ' F' H') (hr : ∀ y ∈ ρ, (y = x ∨ ρ[i + 1]? = some y) → H' y = H y) (hx : x ∈ ρ) : MOk T ρ' F' H' i x mo := by
  cases mo with
  | dead => trivial
  | gone => trivial
  | lst n l => obtain ⟨b1, b2, vs, e1, q⟩ := m; exact ⟨b1, b2, vs, by rw [hr x hx (.inl rfl)]; exact e1, q.le a⟩
  | dic b l => exact ⟨fun z => a.fz x (m.1 z), m.2.le a (hr x hx (.inl rfl))⟩
  | dice => obtain ⟨p, q, z, e1⟩ := m; exact ⟨p, q, z, by rw [hr x hx (.inl rfl)]; exact e1⟩
  | obj c l =>
    obtain ⟨dx, vs, ed, nd, sl, ln, q⟩ := m
    have hd : dx ∈ ρ := List.mem_of_getElem? ed
    refine ⟨dx, vs, a.at ed, nd, ?_, ln, fun j d ej => let ⟨v, ev, rv⟩ := q j d ej; ⟨v, ev, rv.le a⟩⟩
    rcases sl with ⟨s1, s2⟩ | ⟨s1, s2⟩
    · exact .inl ⟨by rw [hr x hx (.inl rfl)]; exact s1, s2⟩
    · exact .inr ⟨by rw [hr x hx (.inl rfl)]; exact s1, by rw [hr dx hd (.inr ed)]; exact s2⟩
theorem Rep.cell {p : Addr} {o : HO} {mo : MO} (r : Rep T ρ F H h) (hp : H p = none) (nm : ∀ c l, mo ≠ .obj c l) (m : MOk T (ρ ++ [p]) F (upd H p o) h.length p mo) : Rep T (ρ ++ [p]) F (upd H p o) (h ++ [mo]) := by
  obtain ⟨n1, n2⟩ := r.fresh hp
  have hl := r.len
  refine ⟨?_, fun x hx => ?_, fun i x mo' ex em u => ?_, fun x f z => r.ft x f (upd_none z), fun i mo' e => ?_, by simp [hl], fun i c l e => ?_⟩
  · rw [List.nodup_append]
    refine ⟨r.nod, by simp, fun x hx y hy => ?_⟩
    rw [List.mem_singleton.mp hy]
    exact fun e => n1 (e ▸ hx)
  · rcases List.mem_append.mp hx with hx | hx
    · exact fun z => r.trk x hx (upd_none z)
    · rw [List.mem_singleton.mp hx, upd_same]; simp
  · by_cases hi : i < h.length
    · rw [List.getElem?_append_left hi] at em
      rw [List.getElem?_append_left (by omega)] at ex
      exact r.nf i x mo' ex em u
    · have hx := List.mem_of_getElem? ex
      rcases List.mem_append.mp hx with hx | hx
      · obtain ⟨j, hj, e2⟩ := List.getElem_of_mem hx
        have q := List.getElem?_eq_some_iff.mp ex
        obtain ⟨q1, q2⟩ := q
        rw [List.getElem_append_right (by omega)] at q2
        have : x = p := by simpa using q2.symm
        rw [this]
        exact n2
      · rw [List.mem_singleton.mp hx]; exact n2
  · by_cases hi : i < h.length
    · rw [List.getElem?_append_left hi] at e
      obtain ⟨x, ex, m'⟩ := r.cells i mo' e
      have hx : x ∈ ρ := List.mem_of_getElem? ex
      refine ⟨x, (Le.cell (F := F) (o := o) hp).at ex, m'.move (Le.cell hp) (fun y hy _ => upd_ne fun z => n1 (z ▸ hy)) hx⟩
    · have hi2 : i < (h ++ [mo]).length := by
        by_cases z : i < (h ++ [mo]).length
        · exact z
        · rw [List.getElem?_eq_none (by omega)] at e; cases e
      have : i = h.length := by simp at hi2; omega
      subst this
      rw [List.getElem?_append_right (Nat.le_refl _), Nat.sub_self] at e
      have e' : mo = mo' := Option.some.inj e
      subst e'
      exact ⟨p, by rw [hl, List.getElem?_append_right (Nat.le_refl _), Nat.sub_self]; rfl, m⟩
  · have hi : i < h.length := by
      by_cases z : i < h.length
      · exact z
      · rw [List.getElem?_append_right (by omega)] at e
        by_cases q : i - h.length = 0
        · rw [q] at e
          exact absurd (Option.some.inj e) (nm c l)
        · rw [List.getElem?_eq_none (by simp; omega)] at e; cases e
    rw [List.getElem?_append_left hi] at e
    have q := r.dd i c l e
    have hi2 : i + 1 < h.length := by
      by_cases z : i + 1 < h.length
      · exact z
      · rw [List.getElem?_eq_none (by omega)] at q; cases q
    rw [List.getElem?_append_left hi2]
    exact q
/-- a cell is written -/
theorem nodup_at {ρ : List Addr} (n : ρ.Nodup) {i j : Nat} {a : Addr} (h1 : ρ[i]? = some a) (h2 : ρ[j]? = some a) : i = j := by
  obtain ⟨hi, e1⟩ := List.getElem?_eq_some_iff.mp h1
  obtain ⟨hj, e2⟩ := List.getElem?_eq_some_iff.mp h2
  exact (List.getElem_inj n).mp (e1.trans e2.symm)
theorem Le.put {a : Addr} {o : HO} (hm : a ∈ ρ) (hn : ¬ F a) : Le ρ F H ρ F (upd H a o) :=
  ⟨⟨[], by simp, by simp⟩, fun x u e nx => by rw [upd_ne (show x ≠ a from fun z => nx (z ▸ hm))]; exact e, fun x h => fun z => h (upd_none z), fun _ f => f, fun _ f => .inl f, fun x u f e => by rw [upd_ne (show x ≠ a from fun z => hn (z ▸ f))]; exact e⟩
theorem Rep.put {a : Addr} {o : HO} {i : Nat} {mo mo' : MO} (r : Rep T ρ F H h) (e : h[i]? = some mo) (ea : ρ[i]? = some a) (n1 : mo ≠ .dead) (n2 : ∀ c l, mo ≠ .obj c l) (n3 : ∀ c l, mo' ≠ .obj c l) (n4 : unl mo = true)
    (m : MOk T ρ F (upd H a o) i a mo') : Rep T ρ F (upd H a o) (h.set i mo') := by
  have hm : a ∈ ρ := List.mem_of_getElem? ea
  have hn := r.nf i a mo ea e n4
  have hi : i < h.length := (List.getElem?_eq_some_iff.mp e).1
  refine ⟨r.nod, fun x hx z => r.trk x hx (upd_none z), fun j x mo2 ex ej u => ?_, fun x f z => r.ft x f (upd_none z), fun j mo2 ej => ?_, by simp [r.len], fun j c l ej => ?_⟩
  · by_cases hj : i = j
    · subst hj
      rw [ea] at ex
      cases ex
      exact hn
    · rw [List.getElem?_set_ne hj] at ej
      exact r.nf j x mo2 ex ej u
  · by_cases hj : i = j
    · subst hj
      rw [List.getElem?_set_self hi] at ej
      have z : mo' = mo2 := Option.some.inj ej
      subst z
      exact ⟨a, ea, m⟩
    · rw [List.getElem?_set_ne hj] at ej
      obtain ⟨x, ex, m2⟩ := r.cells j mo2 ej
      have hx : x ∈ ρ := List.mem_of_getElem? ex
      have nx : x ≠ a := fun z => hj (nodup_at r.nod ea (z ▸ ex))
      refine ⟨x, ex, ?_⟩
      cases mo2 with
      | dead => trivial
      | gone => trivial
      | lst n l => obtain ⟨b1, b2, vs, e1, q⟩ := m2; exact ⟨b1, b2, vs, by rw [upd_ne nx]; exact e1, q.le (Le.put hm hn)⟩
      | dic b l => exact ⟨m2.1, m2.2.le (Le.put hm hn) (upd_ne nx)⟩
      | dice => obtain ⟨p, q, z, e1⟩ := m2; exact ⟨p, q, z, by rw [upd_ne nx]; exact e1⟩
      | obj c l =>
        obtain ⟨dx, vs, ed, nd, sl, ln, q⟩ := m2
        have nd2 : dx ≠ a := fun z => by
          have k : i = j + 1 := nodup_at r.nod ea (z ▸ ed)
          have k2 := r.dd j c l ej
          rw [← k, e] at k2
          exact n1 (Option.some.inj k2)
        refine ⟨dx, vs, ed, nd, ?_, ln, fun j d ej => let ⟨v, ev, rv⟩ := q j d ej; ⟨v, ev, rv.le (Le.put hm hn)⟩⟩
        rcases sl with ⟨s1, s2⟩ | ⟨s1, s2⟩
        · exact .inl ⟨by rw [upd_ne nx]; exact s1, s2⟩
        · exact .inr ⟨by rw [upd_ne nx]; exact s1, by rw [upd_ne nd2]; exact s2⟩
  · by_cases hj : i = j
    · subst hj
      rw [List.getElem?_set_self hi] at ej
      exact absurd (Option.some.inj ej) (n3 c l)
    · rw [List.getElem?_set_ne hj] at ej
      have q := r.dd j c l ej
      by_cases hk : i = j + 1
      · subst hk
        rw [e] at q
        exact absurd (Option.some.inj q) n1
      · rw [List.getElem?_set_ne hk]; exact q
end
end SW
end
section
/-! Readings of codes; expressions. -/
namespace SW
open PySem PySem.Spec PyProof.Rows L2 SlX
variable {T : Tab} {O : Out} {ρ ρ1 ρ' : List Addr} {F F1 F' : Fz} {H H1 H' : Hp} {h h1 : CH} {s : SW.St} {σ : L2.St} {k : K} {x : KX} {Q : VK} {W : WX} {X : Cx}

/-- what an exception in the air is -/
def XOk (T : Tab) (F : Fz) (H : Hp) (ci : Nat) (fs : List DV) (cls : Value) (dx : Option Addr) : Prop :=
  cls = .ref (T.exc ci) ∧ ((fs = [] ∧ dx = none) ∨ ∃ a vs, dx = some a ∧ H a = some (.xd ((T.exf ci).zip vs)) ∧ RVs T F H fs vs ∧ (T.exf ci).length = fs.length)
def PostK (T : Tab) (O : Out) (ρ : List Addr) (F : Fz) (H : Hp) (k : K) (Q : VK) : Prop :=
  ∀ d h', k d h' = some O → ∀ ρ' F' H' v, Le ρ F H ρ' F' H' → Rep T ρ' F' H' h' → RV T ρ' F' H' d v → Q v H'
def PostX (T : Tab) (O : Out) (ρ : List Addr) (F : Fz) (H : Hp) (x : KX) (E : XK) : Prop :=
  ∀ ci fs h', x ci fs h' = some O → ∀ ρ' F' H' cls dx, Le ρ F H ρ' F' H' → Rep T ρ' F' H' h' → XOk T F' H' ci fs cls dx → E cls dx H'
theorem PostX.le {E : XK} (p : PostX T O ρ F H x E) (a : Le ρ F H ρ1 F1 H1) : PostX T O ρ1 F1 H1 x E :=
  fun ci fs h' e ρ' F' H' cls dx l r z => p ci fs h' e ρ' F' H' cls dx (a.trans l) r z
theorem PostK.le (p : PostK T O ρ F H k Q) (a : Le ρ F H ρ1 F1 H1) : PostK T O ρ1 F1 H1 k Q :=
  fun d h' e ρ' F' H' v l r z => p d h' e ρ' F' H' v (a.trans l) r z
theorem PostX.no {E : XK} : PostX T O ρ F H noX E := fun _ _ _ e => nomatch (show (none : A) = some O from e)
/-- an expression's reading -/
def RdE (T : Tab) (W : WX) (c : Code) : TE := fun σ H Q => ∃ (O : Out) (ρ : List Addr) (F : Fz) (s : SW.St) (h : CH) (k : K) (x : KX),
  Rep T ρ F H h ∧ RSl T ρ F H s σ ∧ c s h k x = some O ∧ PostK T O ρ F H k Q ∧ PostX T O ρ F H x (WE W σ)
theorem PE.imp {e : Expr} {t t' : TE} (p : PE X e t) (i : ∀ σ H Q, t' σ H Q → t σ H Q) : PE X e t' := ⟨fun pins s σ H Q I h => p.run pins s σ H Q I (i _ _ _ h)⟩
def Snd (T : Tab) (X : Cx) (W : WX) (e : Expr) (c : Code) : Prop := PE X e (RdE T W c)
/-- two-place operations -/
def RdO (T : Tab) (o : Op2) : R2 := fun u v H Q => ∃ (O : Out) (ρ : List Addr) (F : Fz) (d e : DV) (h : CH) (k : K),
  Rep T ρ F H h ∧ RV T ρ F H d u ∧ RV T ρ F H e v ∧ o d e h k = some O ∧ PostK T O ρ F H k Q
def RdU (T : Tab) (o : Op1) : V → Hp → VK → Prop := fun u H Q => ∃ (O : Out) (ρ : List Addr) (F : Fz) (d : DV) (h : CH) (k : K),
  Rep T ρ F H h ∧ RV T ρ F H d u ∧ o d h k = some O ∧ PostK T O ρ F H k Q
def RdB (T : Tab) (o : OpL) : List V → Hp → VK → Prop := fun us H Q => ∃ (O : Out) (ρ : List Addr) (F : Fz) (ds : List DV) (h : CH) (k : K),
  Rep T ρ F H h ∧ RVl T ρ F H ds us ∧ o ds h k = some O ∧ PostK T O ρ F H k Q
/-! ### the codes of expressions -/
noncomputable section
def eVar (i : Nat) : Code := fun s h k _ => nthK s i fun o => onSome o fun d => k d h
def eC (d : DV) : Code := fun _ h k _ => k d h
def eBin (o : Op2) (a b : Code) : Code := fun s h k x => a s h (fun u h => b s h (fun v h => o u v h k) x) x
def eUn (o : Op1) (a : Code) : Code := fun s h k x => a s h (fun u h => o u h k) x
end
theorem nthK_eq {α : Type} : ∀ (l : List α) (n : Nat) (k : α → A), nthK l n k = match l[n]? with | some a => k a | none => none
  | [], n, k => rfl
  | a :: l, 0, k => rfl
  | a :: l, n + 1, k => by
    show nthK l n k = _
    rw [nthK_eq l n k]
    simp
theorem nthK_some {α : Type} {l : List α} {n : Nat} {k : α → A} (e : nthK l n k = some O) : ∃ a, l[n]? = some a ∧ k a = some O := by
  rw [nthK_eq] at e
  cases q : l[n]? with
  | none => rw [q] at e; cases e
  | some a => rw [q] at e; exact ⟨a, rfl, e⟩
theorem onSome_some {α : Type} {o : Option α} {f : α → A} (e : onSome o f = some O) : ∃ a, o = some a ∧ f a = some O := by
  cases o with
  | none => cases e
  | some a => exact ⟨a, rfl, e⟩
theorem snd_var {i : Nat} {nm : Str} {pos : Pos} (hN : X.N[i]? = some nm) (hv : Vis X.env.scope nm) (hd : (nm == ("__debug__" : Str)) = false) (hcd : (nm == ("__classdict__" : Str)) = false) : Snd T X W (.Name nm pos) (eVar i) := by
  refine PE.imp (pe_var hN hv hd hcd) fun σ H Q hq => ?_
  obtain ⟨O, ρ, F, s, h, k, x, rp, rs, e, pk, px⟩ := hq
  obtain ⟨o, e1, e⟩ := nthK_some e
  obtain ⟨d, e2, e⟩ := onSome_some e
  subst e2
  obtain ⟨v, ev, rv⟩ := rs.2 i d e1
  exact ⟨v, ev, pk d h e ρ F H v .refl rp rv⟩
theorem snd_const {e : Expr} {d : DV} {v : V} (p : PE X e (tC v)) (r : ∀ F H, RVI T F H d v) : Snd T X W e (eC d) := by
  refine PE.imp p fun σ H Q hq => ?_
  obtain ⟨O, ρ, F, s, h, k, x, rp, rs, e, pk, px⟩ := hq
  exact pk d h e ρ F H v .refl rp (.imm (r F H))
/-- one expression, then what follows it -/
theorem RdE.seq {c : Code} {k' : K} {Q' : VK} (rp : Rep T ρ F H h) (rs : RSl T ρ F H s σ) (e : c s h k' x = some O) (px : PostX T O ρ F H x (WE W σ))
    (f : ∀ d h1 ρ1 F1 H1 v, k' d h1 = some O → Le ρ F H ρ1 F1 H1 → Rep T ρ1 F1 H1 h1 → RV T ρ1 F1 H1 d v → RSl T ρ1 F1 H1 s σ → PostX T O ρ1 F1 H1 x (WE W σ) → Q' v H1) : RdE T W c σ H Q' :=
  ⟨O, ρ, F, s, h, k', x, rp, rs, e, fun d h1 e1 ρ1 F1 H1 v l r rv => f d h1 ρ1 F1 H1 v e1 l r rv (rs.le l) (px.le l), px⟩
theorem RdO.of_E {o : Op2} {ca cb : Code} (hq : RdE T W (eBin o ca cb) σ H Q) : RdE T W ca σ H fun u H1 => RdE T W cb σ H1 fun v H2 => RdO T o u v H2 Q := by
  obtain ⟨O, ρ, F, s, h, k, x, rp, rs, e, pk, px⟩ := hq
  refine RdE.seq rp rs e px fun u h1 ρ1 F1 H1 u' e1 l1 r1 ru rs1 px1 => ?_
  refine RdE.seq r1 rs1 e1 px1 fun v h2 ρ2 F2 H2 v' e2 l2 r2 rv rs2 px2 => ?_
  exact ⟨O, ρ2, F2, u, v, h2, k, r2, ru.le l2, rv, e2, pk.le (l1.trans l2)⟩
theorem snd_bin {o : Op2} {op : Operator} {a b : Expr} {ca cb : Code} {pos : Pos} (ho : OpR X (binaryOp op) (RdO T o)) (ha : Snd T X W a ca) (hb : Snd T X W b cb) : Snd T X W (.BinOp a op b pos) (eBin o ca cb) :=
  PE.imp (pe_op ho ha hb) fun _ _ _ hq => RdO.of_E hq
theorem snd_cmp {o : Op2} {op : CmpOp} {a b : Expr} {ca cb : Code} {pos : Pos} (ho : OpR X (compareOp op) (RdO T o)) (ha : Snd T X W a ca) (hb : Snd T X W b cb) (hm : behindInMarks op b = false) : Snd T X W (.Compare a [op] [b] pos) (eBin o ca cb) :=
  PE.imp (pe_cmpR ho ha hb hm) fun _ _ _ hq => RdO.of_E hq
theorem snd_un {o : Op1} {op : UnaryOp} {a : Expr} {ca : Code} {pos : Pos} (ho : UnR X (unaryOp op) (RdU T o)) (ha : Snd T X W a ca) : Snd T X W (.UnaryOp op a pos) (eUn o ca) := by
  refine PE.imp (pe_un ho ha) fun σ H Q hq => ?_
  obtain ⟨O, ρ, F, s, h, k, x, rp, rs, e, pk, px⟩ := hq
  refine RdE.seq rp rs e px fun u h1 ρ1 F1 H1 u' e1 l1 r1 ru rs1 px1 => ?_
  exact ⟨O, ρ1, F1, u, h1, k, r1, ru, e1, pk.le l1⟩

/-! ### argument lists, displays -/
def RdA (T : Tab) (W : WX) (L : Nat → Prop) (c : LCode) : TA := fun σ H Q => ∃ (O : Out) (ρ : List Addr) (F : Fz) (s : SW.St) (h : CH) (k : KL) (x : KX),
  Rep T ρ F H h ∧ RSl T ρ F H s σ ∧ c s h k x = some O ∧ (∀ ds h', L ds.length → k ds h' = some O → ∀ ρ' F' H' vs, Le ρ F H ρ' F' H' → Rep T ρ' F' H' h' → RVl T ρ' F' H' ds vs → Q vs H') ∧ PostX T O ρ F H x (WE W σ)
def SndA (T : Tab) (X : Cx) (W : WX) (es : List Expr) (c : LCode) : Prop := PA X es (RdA T W (· = es.length) c)
theorem PA.imp {e : List Expr} {t t' : TA} (p : PA X e t) (i : ∀ σ H Q, t' σ H Q → t σ H Q) : PA X e t' := ⟨fun pos pins s σ H Q I h => p.run pos pins s σ H Q I (i _ _ _ h)⟩
noncomputable section
def aNil : LCode := fun _ h k _ => k [] h
def aCons (c : Code) (r : LCode) : LCode := fun s h k x => c s h (fun d h => r s h (fun ds h => k (d :: ds) h) x) x
end
theorem snda_nil : SndA T X W [] aNil := by
  refine PA.imp pa_nil fun σ H Q hq => ?_
  obtain ⟨O, ρ, F, s, h, k, x, rp, rs, e, pk, px⟩ := hq
  exact pk [] h rfl e ρ F H [] .refl rp .nil
theorem snda_cons {e : Expr} {es : List Expr} {c : Code} {r : LCode} (he : Snd T X W e c) (hr : SndA T X W es r) (hs : starEach (e :: es) X.env = (false, eval e X.env) :: starEach es X.env) : SndA T X W (e :: es) (aCons c r) := by
  refine PA.imp (pa_cons he hr hs) fun σ H Q hq => ?_
  obtain ⟨O, ρ, F, s, h, k, x, rp, rs, e, pk, px⟩ := hq
  refine RdE.seq rp rs e px fun u h1 ρ1 F1 H1 u' e1 l1 r1 ru rs1 px1 => ?_
  exact ⟨O, ρ1, F1, s, h1, _, x, r1, rs1, e1, fun ds h' hn e2 ρ2 F2 H2 vs l2 r2 rvs => pk (u :: ds) h' (congrArg (· + 1) hn) e2 ρ2 F2 H2 _ (l1.trans l2) r2 (.cons (ru.le l2) rvs), px1⟩
/-- a list's items are no cells -/
noncomputable def nrs (l : List DV) (x : A) : A := @List.rec DV (fun _ => A → A) (fun x => x) (fun d _ ih x => bsel (nr d) (ih x) none) l x
theorem bsel_some {b : Bool} {y : A} (e : bsel b y none = some O) : b = true ∧ y = some O := by
  cases b with
  | true => exact ⟨rfl, e⟩
  | false => cases e
theorem nrs_some : ∀ {l : List DV} {y : A}, nrs l y = some O → (∀ d ∈ l, nr d = true) ∧ y = some O
  | [], _, e => ⟨fun _ h => (nomatch h), e⟩
  | d :: l, y, e => by
    obtain ⟨e1, e2⟩ := bsel_some (show bsel (nr d) (nrs l y) none = some O from e)
    obtain ⟨e3, e4⟩ := nrs_some e2
    exact ⟨fun z hz => (List.mem_cons.mp hz).elim (fun q => q ▸ e1) (e3 z), e4⟩
theorem RVl.imm : ∀ {ds : List DV} {vs : List V}, RVl T ρ F H ds vs → (∀ d ∈ ds, nr d = true) → RVs T F H ds vs
  | _, _, .nil, _ => .nil
  | _, _, .cons r t, n => .cons (r.imm_of (n _ List.mem_cons_self)) (RVl.imm t fun d hd => n d (List.mem_cons_of_mem _ hd))
theorem RVs.rvl : ∀ {ds : List DV} {vs : List V}, RVs T F H ds vs → RVl T ρ F H ds vs
  | _, _, .nil => .nil
  | _, _, .cons r t => .cons (.imm r) (RVs.rvl t)
/-- a new tuple, a new list that no one will change; a new list that is a cell -/
theorem post_tup {ds : List DV} {vs : List V} (rp : Rep T ρ F H h) (hn : ds.length ≤ mx) (rv : RVs T F H ds vs) (e : k (.tup ds) h = some O) (pk : PostK T O ρ F H k Q) : ∀ p, H p = none → Q (.ref p) (upd H p (.tup vs)) := fun p hp =>
  pk _ h e ρ (fzA F p) _ _ (Le.new hp) (rp.new hp) (.imm (.tup fzA_self upd_same (rv.le (Le.new (ρ := ρ) hp)) hn))
theorem post_lst {ds : List DV} {vs : List V} (rp : Rep T ρ F H h) (hn : ds.length ≤ mx) (rv : RVs T F H ds vs) (e : k (.lst ds) h = some O) (pk : PostK T O ρ F H k Q) : ∀ p, H p = none → Q (.ref p) (upd H p (.lst vs)) := fun p hp =>
  pk _ h e ρ (fzA F p) _ _ (Le.new hp) (rp.new hp) (.imm (.lst fzA_self upd_same (rv.le (Le.new (ρ := ρ) hp)) hn))
theorem post_cell {ds : List DV} {vs : List V} {n : Nat} (rp : Rep T ρ F H h) (hn : ds.length ≤ n) (hm : n ≤ mx) (rv : RVl T ρ F H ds vs) (e : k (.ref h.length) (h ++ [.lst n ds]) = some O) (pk : PostK T O ρ F H k Q) : ∀ p, H p = none → Q (.ref p) (upd H p (.lst vs)) := fun p hp =>
  pk _ _ e (ρ ++ [p]) F _ _ (Le.cell hp) (rp.cell hp (fun _ _ z => by cases z) ⟨hn, hm, vs, upd_same, rv.le (Le.cell hp)⟩) (.ref (by rw [rp.len, List.getElem?_append_right (Nat.le_refl _), Nat.sub_self]; rfl))
noncomputable section
def lineC (l : List DV) (x : A) : A := bsel (Nat.ble l.length 1000000) x none
def oTup : OpL := fun ds h k => nrs ds (k (.tup ds) h)
def oLst : OpL := fun ds h k => nrs ds (k (.lst ds) h)
def oCell : OpL := fun ds h k => lenK ds 0 fun m => appK h [.lst m ds] fun h' => lenK h 0 fun n => k (.ref n) h'
def eL (o : OpL) (a : LCode) : Code := fun s h k x => a s h (fun ds h => o ds h k) x
end
theorem appK_eq {α : Type} : ∀ (xs ys : List α) (k : List α → A), appK xs ys k = k (xs ++ ys)
  | [], _, _ => rfl
  | x :: xs, ys, k => by
    show appK xs ys (fun l => k (x :: l)) = _
    rw [appK_eq xs ys]; rfl
theorem revK_eq {α : Type} : ∀ (xs ys : List α) (k : List α → A), revK xs ys k = k (xs.reverse ++ ys)
  | [], _, _ => rfl
  | x :: xs, ys, k => by
    show revK xs (x :: ys) k = _
    rw [revK_eq xs]; simp
theorem forceN_eq (n : Nat) (k : Nat → A) : forceN n k = k n := by cases n <;> rfl
theorem lenK_eq {α : Type} : ∀ (xs : List α) (n : Nat) (k : Nat → A), lenK xs n k = k (n + xs.length)
  | [], n, k => forceN_eq n k
  | x :: xs, n, k => by
    show lenK xs (n + 1) k = _
    rw [lenK_eq xs]; congr 1; simp; omega
theorem putK_eq {α : Type} : ∀ (l : List α) (n : Nat) (v : α) (k : List α → A), putK l n v k = if n < l.length then k (l.set n v) else none
  | [], n, v, k => by simp; rfl
  | x :: l, 0, v, k => by simp; rfl
  | x :: l, n + 1, v, k => by
    show putK l n v (fun l => k (x :: l)) = _
    rw [putK_eq l n]; simp
theorem RVl.len {ds : List DV} {vs : List V} (r : RVl T ρ F H ds vs) : ds.length = vs.length := Paired.length r
theorem line_of {n : Nat} (h : n ≤ mx) : n ≤ sizeLine := by
  have : n ≤ 1000000 := h
  rw [sizeLine_eq]; omega
theorem snd_tup {es : List Expr} {n : Nat} {pos : Pos} {a : LCode} (ha : SndA T X W es a) (hl : es.length ≤ mx) : Snd T X W (.Tuple es n pos) (eL oTup a) := by
  refine PE.imp (pe_tup ha) fun σ H Q hq => ?_
  obtain ⟨O, ρ, F, s, h, k, x, rp, rs, e, pk, px⟩ := hq
  refine ⟨O, ρ, F, s, h, _, x, rp, rs, e, fun ds h' hn e1 ρ1 F1 H1 vs l1 r1 rv => ⟨?_, ?_⟩, px⟩
  · rw [← rv.len]; exact line_of (Nat.le_trans (Nat.le_of_eq hn) hl)
  · obtain ⟨n1, e2⟩ := nrs_some e1
    exact post_tup r1 (Nat.le_trans (Nat.le_of_eq hn) hl) (rv.imm n1) e2 (pk.le l1)
theorem snd_lst {es : List Expr} {pos : Pos} {a : LCode} (ha : SndA T X W es a) (hl : es.length ≤ mx) : Snd T X W (.List es pos) (eL oLst a) := by
  refine PE.imp (pe_lst ha) fun σ H Q hq => ?_
  obtain ⟨O, ρ, F, s, h, k, x, rp, rs, e, pk, px⟩ := hq
  refine ⟨O, ρ, F, s, h, _, x, rp, rs, e, fun ds h' hn e1 ρ1 F1 H1 vs l1 r1 rv => ⟨?_, ?_⟩, px⟩
  · rw [← rv.len]; exact line_of (Nat.le_trans (Nat.le_of_eq hn) hl)
  · obtain ⟨n1, e2⟩ := nrs_some e1
    exact post_lst r1 (Nat.le_trans (Nat.le_of_eq hn) hl) (rv.imm n1) e2 (pk.le l1)
theorem oCell_some {ds : List DV} (e : oCell ds h k = some O) : k (.ref h.length) (h ++ [.lst ds.length ds]) = some O := by
  unfold oCell at e
  rw [lenK_eq, appK_eq, lenK_eq, Nat.zero_add, Nat.zero_add] at e
  exact e
theorem snd_cell {es : List Expr} {pos : Pos} {a : LCode} (ha : SndA T X W es a) (hl : es.length ≤ mx) : Snd T X W (.List es pos) (eL oCell a) := by
  refine PE.imp (pe_lst ha) fun σ H Q hq => ?_
  obtain ⟨O, ρ, F, s, h, k, x, rp, rs, e, pk, px⟩ := hq
  refine ⟨O, ρ, F, s, h, _, x, rp, rs, e, fun ds h' hn e1 ρ1 F1 H1 vs l1 r1 rv => ⟨?_, ?_⟩, px⟩
  · rw [← rv.len]; exact line_of (Nat.le_trans (Nat.le_of_eq hn) hl)
  · exact post_cell r1 (Nat.le_refl _) (Nat.le_trans (Nat.le_of_eq hn) hl) rv (oCell_some e1) (pk.le l1)
/-- a new list: frozen, or a cell -/
noncomputable def mkL (b : Bool) (ds : List DV) (h : CH) (k : K) : A := @Bool.rec (fun _ => List DV → CH → K → A) oLst oCell b ds h k
theorem post_mk {b : Bool} {ds : List DV} {vs : List V} (rp : Rep T ρ F H h) (hn : ds.length ≤ mx) (rv : RVl T ρ F H ds vs) (e : mkL b ds h k = some O) (pk : PostK T O ρ F H k Q) : ∀ p, H p = none → Q (.ref p) (upd H p (.lst vs)) := by
  cases b with
  | false =>
    obtain ⟨n1, e2⟩ := nrs_some (show nrs ds _ = some O from e)
    exact post_lst rp hn (rv.imm n1) e2 pk
  | true => exact post_cell rp (Nat.le_refl _) hn rv (oCell_some (show oCell ds h k = some O from e)) pk
end SW
end
section
/-! Tests. -/
namespace SW
open PySem PySem.Spec PyProof.Rows L2 SlX
variable {T : Tab} {O : Out} {ρ ρ1 ρ' : List Addr} {F F1 F' : Fz} {H H1 H' : Hp} {h h1 : CH} {s : SW.St} {σ : L2.St} {k : K} {x : KX} {Q : VK} {W : WX} {X : Cx}
/-- the way that a test goes -/
def way (b : Bool) (kt kf : CH → A) : CH → A := match b with | true => kt | false => kf
def PostT (T : Tab) (O : Out) (ρ : List Addr) (F : Fz) (H : Hp) (kt kf : CH → A) (Q : Bool → Hp → Prop) : Prop :=
  ∀ b h', way b kt kf h' = some O → ∀ ρ' F' H', Le ρ F H ρ' F' H' → Rep T ρ' F' H' h' → Q b H'
def RdT (T : Tab) (W : WX) (c : TCode) : TT := fun σ H Q => ∃ (O : Out) (ρ : List Addr) (F : Fz) (s : SW.St) (h : CH) (kt kf : CH → A) (x : KX),
  Rep T ρ F H h ∧ RSl T ρ F H s σ ∧ c s h kt kf x = some O ∧ PostT T O ρ F H kt kf Q ∧ PostX T O ρ F H x (WE W σ)
def SndT (T : Tab) (X : Cx) (W : WX) (e : Expr) (c : TCode) : Prop := PT X e (RdT T W c)
def SndW (T : Tab) (X : Cx) (W : WX) (e : Expr) (c : TCode) : Prop := PW X e (RdT T W c)
theorem PT.imp {e : Expr} {t t' : TT} (p : PT X e t) (i : ∀ σ H Q, t' σ H Q → t σ H Q) : PT X e t' := ⟨fun pins s σ H Q I h => p.run pins s σ H Q I (i _ _ _ h)⟩
theorem PW.imp {e : Expr} {t t' : TT} (p : PW X e t) (i : ∀ σ H Q, t' σ H Q → t σ H Q) : PW X e t' := ⟨fun wh pins s σ H Q I h => p.run wh pins s σ H Q I (i _ _ _ h)⟩
theorem PostT.le {kt kf : CH → A} {Q : Bool → Hp → Prop} (p : PostT T O ρ F H kt kf Q) (a : Le ρ F H ρ1 F1 H1) : PostT T O ρ1 F1 H1 kt kf Q :=
  fun b h' e ρ' F' H' l r => p b h' e ρ' F' H' (a.trans l) r
noncomputable section
/-- a value's test -/
def tVal (c : Code) : TCode := fun s h kt kf x => c s h (fun d h => dTest d (kt h) (kf h)) x
def tNot (c : TCode) : TCode := fun s h kt kf x => c s h kf kt x
def tAnd (a b : TCode) : TCode := fun s h kt kf x => a s h (fun h => b s h kt kf x) kf x
def tOr (a b : TCode) : TCode := fun s h kt kf x => a s h kt (fun h => b s h kt kf x) x
def eTest (c : TCode) : Code := fun s h k x => c s h (fun h => k (.bl true) h) (fun h => k (.bl false) h) x
def eIf (c : TCode) (a b : Code) : Code := fun s h k x => c s h (fun h => a s h k x) (fun h => b s h k x) x
/-- and, or by values -/
def eAnd (a b : Code) : Code := fun s h k x => a s h (fun d h => dTest d (b s h k x) (k (.bl false) h)) x
def eOr (a b : Code) : Code := fun s h k x => a s h (fun d h => dTest d (k (.bl true) h) (b s h k x)) x
def oNotB : Op1 := fun d h k => dBl d fun b => bsel b (k (.bl false) h) (k (.bl true) h)
/-- a op b op' c -/
def eChain (o o' : Op2) (a b c : Code) : Code := fun s h k x => a s h (fun u h => b s h (fun v h => o u v h fun d h => dTest d (c s h (fun w h => o' v w h k) x) (k (.bl false) h)) x) x
end
theorem dBl_some {d : DV} {f : Bool → A} (e : dBl d f = some O) : ∃ b, d = .bl b ∧ f b = some O := by
  cases d with
  | bl b => exact ⟨b, rfl, e⟩
  | _ => cases e
theorem dTest_some {d : DV} {y z : A} (e : dTest d y z = some O) : ∃ b, d = .bl b ∧ (match b with | true => y | false => z) = some O := by
  obtain ⟨b, e1, e2⟩ := dBl_some e
  refine ⟨b, e1, ?_⟩
  cases b <;> exact e2
theorem RV.bl_inv {b : Bool} {v : V} (r : RV T ρ F H (.bl b) v) : v = .bl b := by
  cases r with
  | imm r => cases r; rfl
theorem way_eq {b : Bool} {kt kf : CH → A} {h : CH} (e : (match b with | true => kt h | false => kf h) = some O) : way b kt kf h = some O := by cases b <;> exact e
theorem tst_val {ca : Code} {Q : Bool → Hp → Prop} (hq : RdT T W (tVal ca) σ H Q) : RdE T W ca σ H fun x H1 => ∃ c, x = .bl c ∧ Q c H1 := by
  obtain ⟨O, ρ, F, s, h, kt, kf, x, rp, rs, e, pk, px⟩ := hq
  refine RdE.seq rp rs e px fun u h1 ρ1 F1 H1 u' e1 l1 r1 ru rs1 px1 => ?_
  obtain ⟨b, eb, e2⟩ := dTest_some e1
  subst eb
  exact ⟨b, ru.bl_inv, pk b h1 (way_eq e2) ρ1 F1 H1 l1 r1⟩
theorem sndt_val {e : Expr} {c : Code} (he : Snd T X W e c) (hp : ∀ whole, isTrue e X.env whole = (do let v ← whole; standAt e.pos; holding [v] (truthy v))) : SndT T X W e (tVal c) :=
  PT.imp (pt_val he hp) fun _ _ _ hq => tst_val hq
theorem sndt_cmp {o : Op2} {op : CmpOp} {a b : Expr} {ca cb : Code} {pos : Pos} (ho : OpR X (compareOp op) (RdO T o)) (ha : Snd T X W a ca) (hb : Snd T X W b cb) (hm : behindInMarks op b = false) : SndT T X W (.Compare a [op] [b] pos) (tVal (eBin o ca cb)) :=
  PT.imp (pt_cmpR ho ha hb hm) fun _ _ _ hq => RdO.of_E (tst_val hq)
theorem sndt_not {a : Expr} {c : TCode} {pos : Pos} (ha : SndT T X W a c) : SndT T X W (.UnaryOp .Not a pos) (tNot c) := by
  refine PT.imp (pt_not ha) fun σ H Q hq => ?_
  obtain ⟨O, ρ, F, s, h, kt, kf, x, rp, rs, e, pk, px⟩ := hq
  exact ⟨O, ρ, F, s, h, kf, kt, x, rp, rs, e, fun b h' e1 ρ' F' H' l r => pk (!b) h' (by cases b <;> exact e1) ρ' F' H' l r, px⟩
theorem sndw_and1 {a : Expr} {c : TCode} {pos : Pos} (ha : SndT T X W a c) : SndW T X W (.BoolOp .And [a] pos) c := pw_and1 ha
theorem sndw_or1 {a : Expr} {c : TCode} {pos : Pos} (ha : SndT T X W a c) : SndW T X W (.BoolOp .Or [a] pos) c := pw_or1 ha
theorem sndw_and {a b : Expr} {rest : List Expr} {c d : TCode} {pos : Pos} (ha : SndT T X W a c) (hb : SndW T X W (.BoolOp .And (b :: rest) pos) d) : SndW T X W (.BoolOp .And (a :: b :: rest) pos) (tAnd c d) := by
  refine PW.imp (pw_and ha hb) fun σ H Q hq => ?_
  obtain ⟨O, ρ, F, s, h, kt, kf, x, rp, rs, e, pk, px⟩ := hq
  refine ⟨O, ρ, F, s, h, _, _, x, rp, rs, e, fun b h1 e1 ρ1 F1 H1 l1 r1 => ?_, px⟩
  cases b with
  | true =>
    rw [if_pos rfl]
    exact ⟨O, ρ1, F1, s, h1, kt, kf, x, r1, rs.le l1, e1, pk.le l1, px.le l1⟩
  | false =>
    rw [if_neg Bool.false_ne_true]
    exact pk false h1 e1 ρ1 F1 H1 l1 r1
theorem sndw_or {a b : Expr} {rest : List Expr} {c d : TCode} {pos : Pos} (ha : SndT T X W a c) (hb : SndW T X W (.BoolOp .Or (b :: rest) pos) d) : SndW T X W (.BoolOp .Or (a :: b :: rest) pos) (tOr c d) := by
  refine PW.imp (pw_or ha hb) fun σ H Q hq => ?_
  obtain ⟨O, ρ, F, s, h, kt, kf, x, rp, rs, e, pk, px⟩ := hq
  refine ⟨O, ρ, F, s, h, _, _, x, rp, rs, e, fun b h1 e1 ρ1 F1 H1 l1 r1 => ?_, px⟩
  cases b with
  | true =>
    rw [if_pos rfl]
    exact pk true h1 e1 ρ1 F1 H1 l1 r1
  | false =>
    rw [if_neg Bool.false_ne_true]
    exact ⟨O, ρ1, F1, s, h1, kt, kf, x, r1, rs.le l1, e1, pk.le l1, px.le l1⟩
theorem sndt_w {e : Expr} {c : TCode} (h : SndW T X W e c) : SndT T X W e c := PW.pt h
theorem snd_if {c a b : Expr} {cc : TCode} {ca cb : Code} {pos : Pos} (hc : SndT T X W c cc) (ha : Snd T X W a ca) (hb : Snd T X W b cb) : Snd T X W (.IfExp c a b pos) (eIf cc ca cb) := by
  refine PE.imp (pe_ifExp hc ha hb) fun σ H Q hq => ?_
  obtain ⟨O, ρ, F, s, h, k, x, rp, rs, e, pk, px⟩ := hq
  refine ⟨O, ρ, F, s, h, _, _, x, rp, rs, e, fun b h1 e1 ρ1 F1 H1 l1 r1 => ?_, px⟩
  cases b with
  | true =>
    rw [if_pos rfl]
    exact ⟨O, ρ1, F1, s, h1, k, x, r1, rs.le l1, e1, pk.le l1, px.le l1⟩
  | false =>
    rw [if_neg Bool.false_ne_true]
    exact ⟨O, ρ1, F1, s, h1, k, x, r1, rs.le l1, e1, pk.le l1, px.le l1⟩
theorem snd_one {op : BoolOp} {a : Expr} {c : Code} {pos : Pos} (ha : Snd T X W a c) : Snd T X W (.BoolOp op [a] pos) c := pe_one ha
theorem snd_and {a b : Expr} {rest : List Expr} {c d : Code} {pos : Pos} (ha : Snd T X W a c) (hb : Snd T X W (.BoolOp .And (b :: rest) pos) d) : Snd T X W (.BoolOp .And (a :: b :: rest) pos) (eAnd c d) := by
  refine PE.imp (pe_and ha hb) fun σ H Q hq => ?_
  obtain ⟨O, ρ, F, s, h, k, x, rp, rs, e, pk, px⟩ := hq
  refine RdE.seq rp rs e px fun u h1 ρ1 F1 H1 u' e1 l1 r1 ru rs1 px1 => ?_
  obtain ⟨b, eb, e2⟩ := dTest_some e1
  subst eb
  refine ⟨b, ru.bl_inv, ?_⟩
  cases b with
  | true =>
    rw [if_pos rfl]
    exact ⟨O, ρ1, F1, s, h1, k, x, r1, rs1, e2, pk.le l1, px1⟩
  | false =>
    rw [if_neg Bool.false_ne_true]
    exact pk _ h1 e2 ρ1 F1 H1 _ l1 r1 (.imm (.bl _))
theorem snd_or {a b : Expr} {rest : List Expr} {c d : Code} {pos : Pos} (ha : Snd T X W a c) (hb : Snd T X W (.BoolOp .Or (b :: rest) pos) d) : Snd T X W (.BoolOp .Or (a :: b :: rest) pos) (eOr c d) := by
  refine PE.imp (pe_or ha hb) fun σ H Q hq => ?_
  obtain ⟨O, ρ, F, s, h, k, x, rp, rs, e, pk, px⟩ := hq
  refine RdE.seq rp rs e px fun u h1 ρ1 F1 H1 u' e1 l1 r1 ru rs1 px1 => ?_
  obtain ⟨b, eb, e2⟩ := dTest_some e1
  subst eb
  refine ⟨b, ru.bl_inv, ?_⟩
  cases b with
  | true =>
    rw [if_pos rfl]
    exact pk _ h1 e2 ρ1 F1 H1 _ l1 r1 (.imm (.bl _))
  | false =>
    rw [if_neg Bool.false_ne_true]
    exact ⟨O, ρ1, F1, s, h1, k, x, r1, rs1, e2, pk.le l1, px1⟩
theorem snd_not {a : Expr} {c : Code} {pos : Pos} (ha : Snd T X W a c) : Snd T X W (.UnaryOp .Not a pos) (eUn oNotB c) := by
  refine PE.imp (pe_not ha) fun σ H Q hq => ?_
  obtain ⟨O, ρ, F, s, h, k, x, rp, rs, e, pk, px⟩ := hq
  refine RdE.seq rp rs e px fun u h1 ρ1 F1 H1 u' e1 l1 r1 ru rs1 px1 => ?_
  obtain ⟨b, eb, e2⟩ := dBl_some e1
  subst eb
  refine ⟨b, ru.bl_inv, ?_⟩
  cases b with
  | true => exact pk _ h1 e2 ρ1 F1 H1 _ l1 r1 (.imm (.bl _))
  | false => exact pk _ h1 e2 ρ1 F1 H1 _ l1 r1 (.imm (.bl _))
theorem chain_of {o o' : Op2} {ca cb cc : Code} (hq : RdE T W (eChain o o' ca cb cc) σ H Q) : tChain (RdO T o) (RdO T o') (RdE T W ca) (RdE T W cb) (RdE T W cc) σ H Q := by
  obtain ⟨O, ρ, F, s, h, k, x, rp, rs, e, pk, px⟩ := hq
  refine RdE.seq rp rs e px fun u h1 ρ1 F1 H1 u' e1 l1 r1 ru rs1 px1 => ?_
  refine RdE.seq r1 rs1 e1 px1 fun v h2 ρ2 F2 H2 v' e2 l2 r2 rv rs2 px2 => ?_
  refine ⟨O, ρ2, F2, u, v, h2, _, r2, ru.le l2, rv, e2, fun d h3 e3 ρ3 F3 H3 z l3 r3 rz => ?_⟩
  obtain ⟨b, eb, e4⟩ := dTest_some e3
  subst eb
  refine ⟨b, rz.bl_inv, ?_⟩
  cases b with
  | true =>
    rw [if_pos rfl]
    refine RdE.seq r3 (rs2.le l3) e4 (px2.le l3) fun w h4 ρ4 F4 H4 w' e5 l4 r4 rw' rs4 px4 => ?_
    exact ⟨O, ρ4, F4, v, w, h4, k, r4, (rv.le l3).le l4, rw', e5, pk.le (((l1.trans l2).trans l3).trans l4)⟩
  | false =>
    rw [if_neg Bool.false_ne_true]
    exact pk _ h3 e4 ρ3 F3 H3 _ ((l1.trans l2).trans l3) r3 (.imm (.bl _))
theorem snd_chain {o o' : Op2} {op op' : CmpOp} {a b c : Expr} {ca cb cc : Code} {pos : Pos} (ho : OpR X (compareOp op) (RdO T o)) (ho' : OpR X (compareOp op') (RdO T o')) (ha : Snd T X W a ca) (hb : Snd T X W b cb) (hc : Snd T X W c cc)
    (hm : lastMarks [op, op'] [b, c] = false) : Snd T X W (.Compare a [op, op'] [b, c] pos) (eChain o o' ca cb cc) := PE.imp (pe_chain ho ho' ha hb hc hm) fun _ _ _ hq => chain_of hq
theorem sndt_chain {o o' : Op2} {op op' : CmpOp} {a b c : Expr} {ca cb cc : Code} {pos : Pos} (ho : OpR X (compareOp op) (RdO T o)) (ho' : OpR X (compareOp op') (RdO T o')) (ha : Snd T X W a ca) (hb : Snd T X W b cb) (hc : Snd T X W c cc)
    (hm : lastMarks [op, op'] [b, c] = false) : SndT T X W (.Compare a [op, op'] [b, c] pos) (tVal (eChain o o' ca cb cc)) := PT.imp (pt_chain ho ho' ha hb hc hm) fun _ _ _ hq => chain_of (tst_val hq)
end SW
end
section
/-! Values that are data: equality. -/
namespace SW
open PySem PySem.Spec PyProof.Rows L2 SlX
variable {T : Tab} {O : Out} {ρ ρ1 ρ' : List Addr} {F F1 F' : Fz} {H H1 H' : Hp} {h h1 : CH} {s : SW.St} {σ : L2.St} {k : K} {x : KX} {Q : VK} {W : WX} {X : Cx}
mutual
def toPy : DV → PyData
  | .non => .none
  | .bl b => .bool b
  | .int i => .int i
  | .str s => .str (tx s)
  | .tup l => .tuple (toPys l)
  | .lst l => .list (toPys l)
  | .ins _ _ => .none
  | .rng _ _ => .none
  | .ref _ => .none
def toPys : List DV → List PyData
  | [] => []
  | d :: l => toPy d :: toPys l
end
noncomputable section
/-- data, nested at most n deep -/
def dep (d : DV) : Nat → Bool := @DV.rec (fun _ => Nat → Bool) (fun _ => Nat → Bool) (fun _ => true) (fun _ _ => true) (fun _ _ => true) (fun _ _ => true)
  (fun _ ih n => @Nat.rec (fun _ => Bool) false (fun m _ => ih m) n) (fun _ ih n => @Nat.rec (fun _ => Bool) false (fun m _ => ih m) n) (fun _ _ _ _ => false) (fun _ _ _ => false) (fun _ _ => false)
  (fun _ => true) (fun _ _ a b n => @Bool.rec (fun _ => Bool) false (b n) (a n)) d
def deps : List DV → Nat → Bool
  | [], _ => true
  | d :: l, n => @Bool.rec (fun _ => Bool) false (deps l n) (dep d n)
def nlEq (a b : List Nat) : Bool := @List.rec Nat (fun _ => List Nat → Bool) (fun b => @List.rec Nat (fun _ => Bool) true (fun _ _ _ => false) b) (fun x _ ih b => @List.rec Nat (fun _ => Bool) false (fun y ys _ => @Bool.rec (fun _ => Bool) false (ih ys) (Nat.beq x y)) b) a b
def isNon (d : DV) : Bool := @DV.rec (fun _ => Bool) (fun _ => Unit) true (fun _ => false) (fun _ => false) (fun _ => false) (fun _ _ => false) (fun _ _ => false) (fun _ _ _ => false) (fun _ _ => false) (fun _ => false) () (fun _ _ _ _ => ()) d
def cBl (d : DV) (f : Bool → Bool) (g : Int → Bool) : Bool := @DV.rec (fun _ => Bool) (fun _ => Unit) false f g (fun _ => false) (fun _ _ => false) (fun _ _ => false) (fun _ _ _ => false) (fun _ _ => false) (fun _ => false) () (fun _ _ _ _ => ()) d
def cStr (d : DV) (f : List Nat → Bool) : Bool := @DV.rec (fun _ => Bool) (fun _ => Unit) false (fun _ => false) (fun _ => false) f (fun _ _ => false) (fun _ _ => false) (fun _ _ _ => false) (fun _ _ => false) (fun _ => false) () (fun _ _ _ _ => ()) d
def cTup (d : DV) (f : List DV → Bool) : Bool := @DV.rec (fun _ => Bool) (fun _ => Unit) false (fun _ => false) (fun _ => false) (fun _ => false) (fun l _ => f l) (fun _ _ => false) (fun _ _ _ => false) (fun _ _ => false) (fun _ => false) () (fun _ _ _ _ => ()) d
def cLst (d : DV) (f : List DV → Bool) : Bool := @DV.rec (fun _ => Bool) (fun _ => Unit) false (fun _ => false) (fun _ => false) (fun _ => false) (fun _ _ => false) (fun l _ => f l) (fun _ _ _ => false) (fun _ _ => false) (fun _ => false) () (fun _ _ _ _ => ()) d
def b2 (b : Bool) : Int := @Bool.rec (fun _ => Int) (.ofNat 0) (.ofNat 1) b
def bEq (a b : Bool) : Bool := @Bool.rec (fun _ => Bool) (@Bool.rec (fun _ => Bool) true false b) b a
/-- equality of data -/
def eqD (d e : DV) : Bool := @DV.rec (fun _ => DV → Bool) (fun _ => List DV → Bool) isNon (fun b e => cBl e (fun c => bEq b c) (fun j => iEq (b2 b) j)) (fun i e => cBl e (fun c => iEq i (b2 c)) (fun j => iEq i j)) (fun s e => cStr e (fun t => nlEq s t))
  (fun _ ih e => cTup e ih) (fun _ ih e => cLst e ih) (fun _ _ _ _ => false) (fun _ _ _ => false) (fun _ _ => false)
  (fun m => @List.rec DV (fun _ => Bool) true (fun _ _ _ => false) m) (fun _ _ a b m => @List.rec DV (fun _ => Bool) false (fun y ys _ => @Bool.rec (fun _ => Bool) false (b ys) (a y)) m) d e
def eqDs (l : List DV) : List DV → Bool := @DV.rec_1 (fun _ => DV → Bool) (fun _ => List DV → Bool) isNon (fun b e => cBl e (fun c => bEq b c) (fun j => iEq (b2 b) j)) (fun i e => cBl e (fun c => iEq i (b2 c)) (fun j => iEq i j)) (fun s e => cStr e (fun t => nlEq s t))
  (fun _ ih e => cTup e ih) (fun _ ih e => cLst e ih) (fun _ _ _ _ => false) (fun _ _ _ => false) (fun _ _ => false)
  (fun m => @List.rec DV (fun _ => Bool) true (fun _ _ _ => false) m) (fun _ _ a b m => @List.rec DV (fun _ => Bool) false (fun y ys _ => @Bool.rec (fun _ => Bool) false (b ys) (a y)) m) l
end
theorem iEq_eq (i j : Int) : iEq i j = (i == j) := by
  cases i with
  | ofNat a =>
    cases j with
    | ofNat b =>
      show Nat.beq a b = _
      by_cases q : a = b
      · subst q; simp [Nat.beq_refl]
      · have h1 : Nat.beq a b = false := by
          cases z : Nat.beq a b with
          | false => rfl
          | true => exact absurd (Nat.eq_of_beq_eq_true z) q
        rw [h1]
        exact (beq_eq_false_iff_ne.mpr fun z => q (Int.ofNat.inj z)).symm
    | negSucc b => exact (beq_eq_false_iff_ne.mpr fun z => by cases z).symm
  | negSucc a =>
    cases j with
    | ofNat b => exact (beq_eq_false_iff_ne.mpr fun z => by cases z).symm
    | negSucc b =>
      show Nat.beq b a = _
      by_cases q : a = b
      · subst q; simp [Nat.beq_refl]
      · have h1 : Nat.beq b a = false := by
          cases z : Nat.beq b a with
          | false => rfl
          | true => exact absurd (Nat.eq_of_beq_eq_true z).symm q
        rw [h1]
        exact (beq_eq_false_iff_ne.mpr fun z => q (Int.negSucc.inj z)).symm
theorem brec_and (b : Bool) (y : Bool) : @Bool.rec (fun _ => Bool) false y b = (b && y) := by cases b <;> rfl
theorem nlEq_eq : ∀ a b : List Nat, nlEq a b = decide (a = b)
  | [], [] => rfl
  | [], _ :: _ => rfl
  | _ :: _, [] => rfl
  | x :: a, y :: b => by
    show @Bool.rec (fun _ => Bool) false (nlEq a b) (Nat.beq x y) = _
    rw [brec_and, nlEq_eq a b]
    by_cases q : x = y
    · subst q
      simp [Nat.beq_refl]
    · have h1 : Nat.beq x y = false := by
        cases z : Nat.beq x y with
        | false => rfl
        | true => exact absurd (Nat.eq_of_beq_eq_true z) q
      rw [h1]
      simp [q]
theorem tx_inj {a b : List Nat} (h : tx a = tx b) : a = b := by
  have : a.toArray = b.toArray := congrArg Str.cps h
  simpa using this
theorem tx_beq (a b : List Nat) : (tx a == tx b) = nlEq a b := by
  rw [nlEq_eq]
  by_cases q : a = b
  · subst q; simp
  · rw [decide_eq_false q]
    exact beq_eq_false_iff_ne.mpr fun z => q (tx_inj z)
theorem bEq_eq (a b : Bool) : bEq a b = (a == b) := by cases a <;> cases b <;> rfl
theorem dep_tup {l : List DV} {n : Nat} (h : dep (.tup l) n = true) : ∃ m, n = m + 1 ∧ deps l m = true := by
  cases n with
  | zero => cases h
  | succ m =>
    refine ⟨m, rfl, ?_⟩
    have e : ∀ (l : List DV), @DV.rec_1 (fun _ => Nat → Bool) (fun _ => Nat → Bool) (fun _ => true) (fun _ _ => true) (fun _ _ => true) (fun _ _ => true)
      (fun _ ih n => @Nat.rec (fun _ => Bool) false (fun m _ => ih m) n) (fun _ ih n => @Nat.rec (fun _ => Bool) false (fun m _ => ih m) n) (fun _ _ _ _ => false) (fun _ _ _ => false) (fun _ _ => false)
      (fun _ => true) (fun _ _ a b n => @Bool.rec (fun _ => Bool) false (b n) (a n)) l m = deps l m := by
      intro l
      induction l with
      | nil => rfl
      | cons d l ih =>
        show @Bool.rec (fun _ => Bool) false _ (dep d m) = @Bool.rec (fun _ => Bool) false _ (dep d m)
        rw [ih]
    rw [← e l]
    exact h
theorem dep_lst {l : List DV} {n : Nat} (h : dep (.lst l) n = true) : ∃ m, n = m + 1 ∧ deps l m = true := dep_tup (l := l) (n := n) h
theorem eqD_tup (l : List DV) (e : DV) : eqD (.tup l) e = cTup e (eqDs l) := rfl
theorem eqD_lst (l : List DV) (e : DV) : eqD (.lst l) e = cLst e (eqDs l) := rfl
theorem eqDs_nn : eqDs [] [] = true := rfl
theorem eqDs_nc (e : DV) (m : List DV) : eqDs [] (e :: m) = false := rfl
theorem eqDs_cn (d : DV) (l : List DV) : eqDs (d :: l) [] = false := rfl
theorem eqDs_cc (d e : DV) (l m : List DV) : eqDs (d :: l) (e :: m) = (eqD d e && eqDs l m) := brec_and _ _
mutual
theorem dep_ok : ∀ (d : DV) (n : Nat) (v : V), dep d n = true → RVI T F H d v → (toPy d).canLay0 = true ∧ (toPy d).depth ≤ n
  | .non, n, _, _, _ => ⟨rfl, Nat.zero_le _⟩
  | .bl b, n, _, _, _ => ⟨rfl, Nat.zero_le _⟩
  | .int b, n, _, _, _ => ⟨rfl, Nat.zero_le _⟩
  | .str b, n, _, _, .str q => ⟨by
      show PyData.strOk (tx b) = true
      unfold PyData.strOk
      simp only [Array.all_eq_true]
      intro i hi
      have := q.2 b[i] (List.getElem_mem _)
      simpa using this, Nat.zero_le _⟩
  | .tup l, n, _, h, .tup _ _ r _ => by
    obtain ⟨m, e, hd⟩ := dep_tup h
    subst e
    obtain ⟨h1, h2⟩ := deps_ok l m _ hd r
    exact ⟨by simpa [toPy, PyData.canLay0] using h1, by simpa [toPy, PyData.depth] using h2⟩
  | .lst l, n, _, h, .lst _ _ r _ => by
    obtain ⟨m, e, hd⟩ := dep_lst h
    subst e
    obtain ⟨h1, h2⟩ := deps_ok l m _ hd r
    exact ⟨by simpa [toPy, PyData.canLay0] using h1, by simpa [toPy, PyData.depth] using h2⟩
  | .ins _ _, n, _, h, _ => by cases h
  | .rng _ _, n, _, h, _ => by cases h
  | .ref _, n, _, h, _ => by cases h
theorem deps_ok : ∀ (l : List DV) (n : Nat) (vs : List V), deps l n = true → RVs T F H l vs → PyData.canLayAll0 (toPys l) = true ∧ PyData.depthAll (toPys l) ≤ n
  | [], n, _, _, _ => ⟨rfl, Nat.zero_le _⟩
  | d :: l, n, _, h, .cons r t => by
    have h' : (dep d n && deps l n) = true := by rw [← brec_and]; exact h
    obtain ⟨a, b⟩ := Bool.and_eq_true_iff.mp h'
    obtain ⟨a1, a2⟩ := dep_ok d n _ a r
    obtain ⟨b1, b2⟩ := deps_ok l n _ b t
    refine ⟨by simp [toPys, PyData.canLayAll0, a1, b1], ?_⟩
    simp only [toPys, PyData.depthAll]
    omega
end
mutual
theorem dp_of {K : PySem.W.Frag} : ∀ (d : DV) (n : Nat) (v : V), dep d n = true → RVI T F H d v → Dp K H v (toPy d)
  | .non, n, _, _, .non => .non
  | .bl b, n, _, _, .bl _ => .bl b
  | .int b, n, _, _, .int _ => .int b
  | .str b, n, _, _, .str _ => .str _
  | .tup l, n, _, h, .tup f e r _ => by
    obtain ⟨m, _, h⟩ := dep_tup h
    exact .tup (.inl (.inl e)) (dps_of l m _ h r)
  | .lst l, n, _, h, .lst f e r _ => by
    obtain ⟨m, _, h⟩ := dep_lst h
    exact .lst (.inl (.inl e)) (dps_of l m _ h r)
  | .ins _ _, n, _, h, _ => by cases h
  | .rng _ _, n, _, h, _ => by cases h
  | .ref _, n, _, h, _ => by cases h
theorem dps_of {K : PySem.W.Frag} : ∀ (l : List DV) (n : Nat) (vs : List V), deps l n = true → RVs T F H l vs → DpAll K H vs (toPys l)
  | [], n, _, _, .nil => .nil
  | d :: l, n, _, h, .cons r t => by
    have h' : (dep d n && deps l n) = true := by rw [← brec_and]; exact h
    obtain ⟨a, b⟩ := Bool.and_eq_true_iff.mp h'
    exact .cons (dp_of d n _ a r) (dps_of l n _ b t)
end
mutual
theorem eqD_ok : ∀ (d e : DV) (n m : Nat), dep d n = true → dep e m = true → eqD d e = PyData.eqv (toPy d) (toPy e)
  | .non, e, n, m, _, h => by cases e <;> first | rfl | cases h
  | .bl b, e, n, m, _, h => by
    cases e with
    | bl c => exact bEq_eq b c
    | int j => exact (iEq_eq _ _).trans (by cases b <;> rfl)
    | ins => cases h
    | rng => cases h
    | ref => cases h
    | _ => rfl
  | .int b, e, n, m, _, h => by
    cases e with
    | bl c => exact (iEq_eq _ _).trans (by cases c <;> rfl)
    | int j => exact iEq_eq b j
    | ins => cases h
    | rng => cases h
    | ref => cases h
    | _ => rfl
  | .str b, e, n, m, _, h => by
    cases e with
    | str c => exact (tx_beq b c).symm
    | ins => cases h
    | rng => cases h
    | ref => cases h
    | _ => rfl
  | .tup l, e, n, m, h1, h => by
    rw [eqD_tup]
    cases e with
    | tup c =>
      obtain ⟨n', _, h1⟩ := dep_tup h1
      obtain ⟨m', _, h⟩ := dep_tup h
      exact eqDs_ok l c n' m' h1 h
    | ins => cases h
    | rng => cases h
    | ref => cases h
    | _ => rfl
  | .lst l, e, n, m, h1, h => by
    rw [eqD_lst]
    cases e with
    | lst c =>
      obtain ⟨n', _, h1⟩ := dep_lst h1
      obtain ⟨m', _, h⟩ := dep_lst h
      exact eqDs_ok l c n' m' h1 h
    | ins => cases h
    | rng => cases h
    | ref => cases h
    | _ => rfl
  | .ins _ _, e, n, m, h, _ => by cases h
  | .rng _ _, e, n, m, h, _ => by cases h
  | .ref _, e, n, m, h, _ => by cases h
theorem eqDs_ok : ∀ (l c : List DV) (n m : Nat), deps l n = true → deps c m = true → eqDs l c = PyData.eqvAll (toPys l) (toPys c)
  | [], [], _, _, _, _ => rfl
  | [], _ :: _, _, _, _, _ => rfl
  | _ :: _, [], _, _, _, _ => rfl
  | d :: l, e :: c, n, m, h, h2 => by
    have h' : (dep d n && deps l n) = true := by rw [← brec_and]; exact h
    have h2' : (dep e m && deps c m) = true := by rw [← brec_and]; exact h2
    obtain ⟨a, b⟩ := Bool.and_eq_true_iff.mp h'
    obtain ⟨a2, b2⟩ := Bool.and_eq_true_iff.mp h2'
    rw [eqDs_cc, eqD_ok d e n m a a2, eqDs_ok l c n m b b2]
    rfl
end
theorem shaped_of {d : DV} {n : Nat} {v : V} (h : dep d n = true) (r : RVI T F H d v) (hn : n ≤ 64) : SeqAt.shaped (toPy d) = true := by
  obtain ⟨a, b⟩ := dep_ok d n v h r
  unfold SeqAt.shaped
  rw [a, Bool.true_and]
  exact decide_eq_true (by omega)
end SW
end
section
/-! Operators. -/
namespace SW
open PySem PySem.Spec PyProof.Rows L2 SlX
variable {T : Tab} {O : Out} {ρ ρ1 ρ' : List Addr} {F F1 F' : Fz} {H H1 H' : Hp} {h h1 : CH} {s : SW.St} {σ : L2.St} {k : K} {x : KX} {Q : VK} {W : WX} {X : Cx}
/-! ### what a value is -/
theorem dInt_some {d : DV} {f : Int → A} (e : dInt d f = some O) : ∃ b, d = .int b ∧ f b = some O := by
  cases d with
  | int b => exact ⟨b, rfl, e⟩
  | _ => cases e
theorem dStr_some {d : DV} {f : List Nat → A} (e : dStr d f = some O) : ∃ b, d = .str b ∧ f b = some O := by
  cases d with
  | str b => exact ⟨b, rfl, e⟩
  | _ => cases e
theorem dTup_some {d : DV} {f : List DV → A} (e : dTup d f = some O) : ∃ b, d = .tup b ∧ f b = some O := by
  cases d with
  | tup b => exact ⟨b, rfl, e⟩
  | _ => cases e
theorem dIns_some {d : DV} {f : Nat → List DV → A} (e : dIns d f = some O) : ∃ c l, d = .ins c l ∧ f c l = some O := by
  cases d with
  | ins c l => exact ⟨c, l, rfl, e⟩
  | _ => cases e
theorem RV.int_inv {i : Int} {v : V} (r : RV T ρ F H (.int i) v) : v = .int i := by
  cases r with
  | imm r => cases r; rfl
theorem RV.str_inv {z : List Nat} {v : V} (r : RV T ρ F H (.str z) v) : v = .str (tx z) ∧ sOk z := by
  cases r with
  | imm r => cases r with | str q => exact ⟨rfl, q⟩
theorem RV.non_inv {v : V} (r : RV T ρ F H .non v) : v = .non := by
  cases r with
  | imm r => cases r; rfl
theorem RV.tup_inv {l : List DV} {v : V} (r : RV T ρ F H (.tup l) v) : ∃ a vs, v = .ref a ∧ F a ∧ H a = some (.tup vs) ∧ RVs T F H l vs ∧ l.length ≤ mx := by
  cases r with
  | imm r => cases r with | tup f e q n => exact ⟨_, _, rfl, f, e, q, n⟩
theorem RV.lst_inv {l : List DV} {v : V} (r : RV T ρ F H (.lst l) v) : ∃ a vs, v = .ref a ∧ F a ∧ H a = some (.lst vs) ∧ RVs T F H l vs ∧ l.length ≤ mx := by
  cases r with
  | imm r => cases r with | lst f e q n => exact ⟨_, _, rfl, f, e, q, n⟩
theorem RV.rng_inv {lo hi : Int} {v : V} (r : RV T ρ F H (.rng lo hi) v) (n : lo < hi ∨ hi < 0) : ∃ i, v = .int i ∧ rngP lo hi i := by
  cases r with
  | imm r => cases r with
    | rng h => exact ⟨_, rfl, h⟩
    | scr _ _ _ => omega
    | scrK _ _ => omega
theorem RV.ref_inv {i : Nat} {v : V} (r : RV T ρ F H (.ref i) v) : ∃ a, v = .ref a ∧ ρ[i]? = some a := by
  cases r with
  | imm r => cases r
  | ref e => exact ⟨_, rfl, e⟩
theorem RV.ins_inv {c : Nat} {l : List DV} {v : V} (r : RV T ρ F H (.ins c l) v) : ∃ a dx vs, v = .ref a ∧ F a ∧ F dx ∧ H a = some (SlO a (T.cls c) dx (vs.map some)) ∧ H dx = some (.xd []) ∧ RVs T F H l vs ∧ l.length = T.nsl c := by
  cases r with
  | imm r => cases r with | ins f g e e2 q n => exact ⟨_, _, _, rfl, f, g, e, e2, q, n⟩
noncomputable section
def mLst (mo : MO) (f : Nat → List DV → A) : A := @MO.rec (fun _ => (Nat → List DV → A) → A) (fun n l f => f n l) (fun _ _ _ => none) (fun _ _ _ => none) (fun _ => none) (fun _ => none) (fun _ => none) mo f
/-- the items of a list: one that no one changes, or a cell as it stands -/
def dList (d : DV) (h : CH) (f : List DV → A) : A := @DV.rec (fun _ => CH → (List DV → A) → A) (fun _ => Unit) (fun _ _ => none) (fun _ _ _ => none) (fun _ _ _ => none) (fun _ _ _ => none) (fun _ _ _ _ => none) (fun l _ _ f => f l) (fun _ _ _ _ _ => none) (fun _ _ _ _ => none)
  (fun i h f => nthK h i fun mo => mLst mo fun _ l => f l) () (fun _ _ _ _ => ()) d h f
/-- of a list or a tuple -/
def dSeq (d : DV) (h : CH) (f : List DV → A) : A := @DV.rec (fun _ => CH → (List DV → A) → A) (fun _ => Unit) (fun _ _ => none) (fun _ _ _ => none) (fun _ _ _ => none) (fun _ _ _ => none) (fun l _ _ f => f l) (fun l _ _ f => f l) (fun _ _ _ _ _ => none) (fun _ _ _ _ => none)
  (fun i h f => nthK h i fun mo => mLst mo fun _ l => f l) () (fun _ _ _ _ => ()) d h f
abbrev Op2r := DV → CH → K → A
def badI : Int → Op2r := fun _ _ _ _ => none
def badS : List Nat → Op2r := fun _ _ _ _ => none
def badL : List DV → Op2r := fun _ _ _ _ => none
def badR : Nat → Op2r := fun _ _ _ _ => none
def bad0 : Op2r := fun _ _ _ => none
/-- an operation by its left value's kind -/
def opBy (fI : Int → Op2r) (fS : List Nat → Op2r) (fT fL : List DV → Op2r) (fR : Nat → Op2r) (d : DV) : Op2r :=
  @DV.rec (fun _ => Op2r) (fun _ => Unit) bad0 (fun _ => bad0) fI fS (fun l _ => fT l) (fun l _ => fL l) (fun _ _ _ => bad0) (fun _ _ => bad0) fR () (fun _ _ _ _ => ()) d
end
theorem mLst_some {mo : MO} {f : Nat → List DV → A} (e : mLst mo f = some O) : ∃ n l, mo = .lst n l ∧ f n l = some O := by
  cases mo with
  | lst n l => exact ⟨n, l, rfl, e⟩
  | _ => cases e
/-- a list's items, by the heap -/
theorem dList_some {d : DV} {v : V} {f : List DV → A} (e : dList d h f = some O) (rp : Rep T ρ F H h) (r : RV T ρ F H d v) : ∃ a l vs, v = .ref a ∧ H a = some (.lst vs) ∧ RVl T ρ F H l vs ∧ l.length ≤ mx ∧ f l = some O := by
  cases d with
  | lst l => obtain ⟨a, vs, e1, _, e2, q, n⟩ := r.lst_inv; exact ⟨a, l, vs, e1, e2, q.rvl, n, e⟩
  | ref i =>
    obtain ⟨mo, em, e⟩ := nthK_some (show nthK h i _ = some O from e)
    obtain ⟨n, l, el, e⟩ := mLst_some e
    subst el
    obtain ⟨a, ea, b1, b2, vs, e1, q⟩ := rp.cells i _ em
    obtain ⟨a', ev, ea'⟩ := r.ref_inv
    rw [ea] at ea'
    cases ea'
    exact ⟨a, l, vs, ev, e1, q, Nat.le_trans b1 b2, e⟩
  | _ => cases e
theorem dSeq_some {K : PySem.W.Frag} {d : DV} {v : V} {f : List DV → A} (e : dSeq d h f = some O) (rp : Rep T ρ F H h) (r : RV T ρ F H d v) :
    ∃ a l vs, v = .ref a ∧ (SqL K H a vs ∨ SqT K H a vs) ∧ RVl T ρ F H l vs ∧ l.length ≤ mx ∧ f l = some O := by
  cases d with
  | tup l => obtain ⟨a, vs, e1, _, e2, q, n⟩ := r.tup_inv; exact ⟨a, l, vs, e1, .inr (.inl (.inl e2)), q.rvl, n, e⟩
  | lst l => obtain ⟨a, vs, e1, _, e2, q, n⟩ := r.lst_inv; exact ⟨a, l, vs, e1, .inl (.inl (.inl e2)), q.rvl, n, e⟩
  | ref i =>
    obtain ⟨a, l, vs, e1, e2, q, n, e3⟩ := dList_some (d := .ref i) (f := f) e rp r
    exact ⟨a, l, vs, e1, .inl (.inl (.inl e2)), q, n, e3⟩
  | _ => cases e
/-! ### ints -/
theorem forceI_eq (i : Int) (k : Int → A) : forceI i k = k i := by
  cases i with
  | ofNat n => exact forceN_eq n _
  | negSucc n => exact forceN_eq n _
theorem iAdd_eq (i j : Int) : iAdd i j = i + j := by cases i <;> cases j <;> rfl
theorem iSub_eq (i j : Int) : iSub i j = i - j := by
  cases i with
  | ofNat a =>
    cases j with
    | ofNat b => exact Int.subNatNat_eq_coe
    | negSucc b => rfl
  | negSucc a =>
    cases j with
    | ofNat b =>
      cases b with
      | zero => rfl
      | succ b => show Int.negSucc (a + (b + 1)) = Int.negSucc (a + b + 1); rfl
    | negSucc b => show Int.subNatNat b a = Int.subNatNat (b + 1) (a + 1); rw [Int.subNatNat_eq_coe, Int.subNatNat_eq_coe]; omega
theorem iMul_eq (i j : Int) : iMul i j = i * j := by cases i <;> cases j <;> rfl
theorem iNeg_eq (i : Int) : iNeg i = -i := by cases i <;> rfl
theorem iLt_eq (i j : Int) : iLt i j = decide (i < j) := by
  cases i with
  | ofNat a =>
    cases j with
    | ofNat b =>
      show Nat.blt a b = _
      by_cases q : a < b
      · rw [show Nat.blt a b = true from Nat.ble_eq_true_of_le q]; exact (decide_eq_true (Int.ofNat_lt.mpr q)).symm
      · rw [show Nat.blt a b = false from by
          cases z : Nat.blt a b with
          | false => rfl
          | true => exact absurd (Nat.le_of_ble_eq_true z) q]
        exact (decide_eq_false fun z => q (Int.ofNat_lt.mp z)).symm
    | negSucc b => exact (decide_eq_false fun z => by have := Int.negSucc_lt_zero b; have h2 : (0 : Int) ≤ Int.ofNat a := Int.natCast_nonneg a; omega).symm
  | negSucc a =>
    cases j with
    | ofNat b => exact (decide_eq_true (by have := Int.negSucc_lt_zero a; have h2 : (0 : Int) ≤ Int.ofNat b := Int.natCast_nonneg b; omega)).symm
    | negSucc b =>
      show Nat.blt b a = _
      have key : (Int.negSucc a < Int.negSucc b) ↔ b < a := by omega
      by_cases q : b < a
      · rw [show Nat.blt b a = true from Nat.ble_eq_true_of_le q]; exact (decide_eq_true (key.mpr q)).symm
      · rw [show Nat.blt b a = false from by
          cases z : Nat.blt b a with
          | false => rfl
          | true => exact absurd (Nat.le_of_ble_eq_true z) q]
        exact (decide_eq_false fun z => q (key.mp z)).symm
theorem iLe_eq (i j : Int) : iLe i j = decide (i ≤ j) := by
  have key : iLe i j = !iLt j i := by
    have nb : ∀ a b : Nat, Nat.ble a b = !Nat.blt b a := fun a b => by
      by_cases q : a ≤ b
      · rw [Nat.ble_eq_true_of_le q, show Nat.blt b a = false from by
          cases z : Nat.blt b a with
          | false => rfl
          | true => exact absurd (Nat.le_of_ble_eq_true z) (by omega)]; rfl
      · rw [show Nat.blt b a = true from Nat.ble_eq_true_of_le (show b + 1 ≤ a by omega), show Nat.ble a b = false from by
          cases z : Nat.ble a b with
          | false => rfl
          | true => exact absurd (Nat.le_of_ble_eq_true z) q]; rfl
    cases i <;> cases j <;> first | rfl | exact nb _ _
  rw [key, iLt_eq]
  by_cases q : j < i
  · rw [decide_eq_true q, decide_eq_false (by omega)]; rfl
  · rw [decide_eq_false q, decide_eq_true (by omega)]; rfl
theorem iDiv_eq {i j : Int} (hj : 0 < j) : iDiv i j = i / j := by
  cases i with
  | ofNat a =>
    cases j with
    | ofNat b => rfl
    | negSucc b => rfl
  | negSucc a =>
    cases j with
    | ofNat b =>
      cases b with
      | zero => exact absurd hj (by decide)
      | succ b => rfl
    | negSucc b => rfl
theorem iMod_eq {i j : Int} : iMod i j = i % j := by cases i <;> cases j <;> rfl
noncomputable section
def kI (i : Int) (h : CH) (k : K) : A := forceI i fun i => k (.int i) h
def kB (b : Bool) (h : CH) (k : K) : A := bsel b (k (.bl true) h) (k (.bl false) h)
/-- how large an int is, by its bits -/
def bits (i : Int) : Nat := @Int.rec (fun _ => Nat) (fun n => Nat.log2 n) (fun n => Nat.log2 (Nat.succ n)) i
def addI : Int → Op2r := fun i e h k => dInt e fun j => kI (iAdd i j) h k
def subI : Int → Op2r := fun i e h k => dInt e fun j => kI (iSub i j) h k
def mulI : Int → Op2r := fun i e h k => dInt e fun j => bsel (Nat.blt (Nat.add (bits i) (bits j)) 1000000) (kI (iMul i j) h k) none
def divI : Int → Op2r := fun i e h k => dInt e fun j => bsel (iLt (.ofNat 0) j) (bsel (Nat.blt (bits j) 9000) (kI (iDiv i j) h k) none) none
def modI : Int → Op2r := fun i e h k => dInt e fun j => bsel (iLt (.ofNat 0) j) (kI (iMod i j) h k) none
def iPow (i : Int) (n : Nat) : Int := @Int.rec (fun _ => Int) (fun a => .ofNat (Nat.pow a n)) (fun a => (Int.negSucc a) ^ n) i
def powI : Int → Op2r := fun i e h k => dInt e fun j => @Int.rec (fun _ => Int → CH → K → A) (fun n i h k => bsel (Nat.ble n 1000000) (bsel (Nat.blt (bits i) 64) (kI (iPow i n) h k) none) none) (fun _ _ _ _ => none) j i h k
def ltI : Int → Op2r := fun i e h k => dInt e fun j => kB (iLt i j) h k
def leI : Int → Op2r := fun i e h k => dInt e fun j => kB (iLe i j) h k
def gtI : Int → Op2r := fun i e h k => dInt e fun j => kB (iLt j i) h k
def geI : Int → Op2r := fun i e h k => dInt e fun j => kB (iLe j i) h k
def lenBelow {α : Type} (l : List α) (x : A) : A := lenK l 0 fun n => bsel (Nat.ble n mx) x none
def addS : List Nat → Op2r := fun a e h k => dStr e fun b => appK a b fun c => lenBelow c (k (.str c) h)
def addT : List DV → Op2r := fun a e h k => dTup e fun b => appK a b fun c => lenBelow c (k (.tup c) h)
def addLs (mk : Bool) (a : List DV) (e : DV) (h : CH) (k : K) : A := dList e h fun b => appK a b fun c => lenBelow c (mkL mk c h k)
def addL (mk : Bool) : List DV → Op2r := fun a e h k => addLs mk a e h k
def addR (mk : Bool) : Nat → Op2r := fun i e h k => nthK h i fun mo => mLst mo fun _ l => addLs mk l e h k
def oAdd (mk : Bool) : Op2 := opBy addI addS addT (addL mk) (addR mk)
def oSub : Op2 := opBy subI badS badL badL badR
def oDiv : Op2 := opBy divI badS badL badL badR
def oMod : Op2 := opBy modI badS badL badL badR
def oPow : Op2 := opBy powI badS badL badL badR
def oLt : Op2 := opBy ltI badS badL badL badR
def oLe : Op2 := opBy leI badS badL badL badR
def oGt : Op2 := opBy gtI badS badL badL badR
def oGe : Op2 := opBy geI badS badL badL badR
def oNeg : Op1 := fun d h k => dInt d fun i => kI (iNeg i) h k
end
theorem bsel2_some {b : Bool} {y z : A} (e : bsel b y z = some O) : (b = true ∧ y = some O) ∨ (b = false ∧ z = some O) := by
  cases b with
  | true => exact .inl ⟨rfl, e⟩
  | false => exact .inr ⟨rfl, e⟩
theorem kI_some {i : Int} (e : kI i h k = some O) : k (.int i) h = some O := by
  unfold kI at e
  rw [forceI_eq] at e
  exact e
theorem kB_some {b : Bool} (e : kB b h k = some O) : k (.bl b) h = some O := by cases b <;> exact e
theorem PostK.now {d : DV} {v : V} (pk : PostK T O ρ F H k Q) (rp : Rep T ρ F H h) (e : k d h = some O) (r : RVI T F H d v) : Q v H := pk d h e ρ F H v .refl rp (.imm r)
theorem lenBelow_some {α : Type} {l : List α} {y : A} (e : lenBelow l y = some O) : l.length ≤ mx ∧ y = some O := by
  unfold lenBelow at e
  rw [lenK_eq, Nat.zero_add] at e
  obtain ⟨e1, e2⟩ := bsel_some e
  exact ⟨Nat.le_of_ble_eq_true e1, e2⟩
/-- an operation of ints alone -/
theorem or_int {f : Value → Value → Sem Value} {fI : Int → Op2r} {C : Int → Int → Prop} {g : Int → Int → V} (ho : OpR X f (rI C g)) (hs : ∀ {O : Out} {i j : Int} {h : CH} {k : K}, fI i (.int j) h k = some O → C i j ∧ ∃ d, k d h = some O ∧ ∀ {F H}, RVI T F H d (g i j))
    (hd : ∀ {O : Out} {i : Int} {d : DV} {h : CH} {k : K}, fI i d h k = some O → ∃ j, d = .int j) : OpR X f (RdO T (opBy fI badS badL badL badR)) := by
  intro pins s σ H x y v u Q I rx ry hq
  obtain ⟨O, ρ, F, d, e, h, k, rp, rd, re, eq, pk⟩ := hq
  cases d with
  | int i =>
    have eq' : fI i e h k = some O := eq
    obtain ⟨j, ej⟩ := hd eq'
    subst ej
    obtain ⟨c, d, e1, r⟩ := hs eq'
    exact ho pins s σ H x y v u Q I rx ry ⟨i, j, rd.int_inv, re.int_inv, c, pk.now rp e1 r⟩
  | _ => cases eq
theorem dInt_is {i : Int} {f : Int → A} : dInt (.int i) f = f i := rfl
theorem dI {O : Out} {d : DV} {f : Int → A} (e : dInt d f = some O) : ∃ j, d = .int j := let ⟨j, a, _⟩ := dInt_some e; ⟨j, a⟩
theorem rI0_imp {f : Value → Value → Sem Value} {g : Int → Int → V} (ho : OpR X f (rI0 g)) : OpR X f (rI (fun _ _ => True) g) := fun pins s σ H x y v u Q I rx ry ⟨i, j, a, b, _, q⟩ => ho pins s σ H x y v u Q I rx ry ⟨i, j, a, b, q⟩
theorem or_sub : OpR X (binaryOp .Sub) (RdO T oSub) := or_int (fI := subI) (rI0_imp op_sub) (fun {O i j h k} e => ⟨trivial, _, kI_some e, by rw [iSub_eq]; exact .int _⟩) dI
theorem bits_eq (i : Int) : bits i = i.natAbs.log2 := by cases i <;> rfl
theorem or_div : OpR X (binaryOp .FloorDiv) (RdO T oDiv) := or_int (fI := divI) op_fdivW (fun {O i j h k} e => by
  obtain ⟨e1, e⟩ := bsel_some (show bsel _ _ _ = some O from e)
  obtain ⟨e2, e⟩ := bsel_some e
  rw [iLt_eq] at e1
  have hj : 0 < j := of_decide_eq_true e1
  refine ⟨⟨hj, by rw [← bits_eq]; exact Nat.le_of_ble_eq_true e2⟩, _, kI_some e, ?_⟩
  rw [iDiv_eq hj]
  exact .int _) dI
theorem or_mod : OpR X (binaryOp .Mod) (RdO T oMod) := or_int (fI := modI) op_mod (fun {O i j h k} e => by
  obtain ⟨e1, e⟩ := bsel_some (show bsel _ _ _ = some O from e)
  rw [iLt_eq] at e1
  refine ⟨of_decide_eq_true e1, _, kI_some e, ?_⟩
  rw [iMod_eq]
  exact .int _) dI
theorem iPow_eq (i : Int) (n : Nat) : iPow i n = i ^ n := by
  cases i with
  | ofNat a => exact Int.natCast_pow a n
  | negSucc a => rfl
theorem or_pow : OpR X (binaryOp .Pow) (RdO T oPow) := or_int (fI := powI) op_pow (fun {O i j h k} e => by
  cases j with
  | ofNat n =>
    obtain ⟨e1, e⟩ := bsel_some (show bsel _ _ _ = some O from e)
    obtain ⟨e2, e⟩ := bsel_some e
    have h1 : n ≤ 1000000 := Nat.le_of_ble_eq_true e1
    have h2 : bits i < 64 := Nat.le_of_ble_eq_true e2
    rw [bits_eq] at h2
    refine ⟨⟨Int.natCast_nonneg n, Int.ofNat_le.mpr h1, ?_⟩, _, kI_some e, ?_⟩
    · by_cases z : i.natAbs = 0
      · rw [z]; decide
      · exact (Nat.log2_lt z).mp h2
    · rw [iPow_eq]
      exact .int _
  | negSucc n => cases e) dI
theorem or_lt : OpR X (compareOp .Lt) (RdO T oLt) := or_int (fI := ltI) (rI0_imp op_lt) (fun {O i j h k} e => ⟨trivial, _, kB_some e, by rw [iLt_eq]; exact .bl _⟩) dI
theorem or_le : OpR X (compareOp .LtE) (RdO T oLe) := or_int (fI := leI) (rI0_imp op_le) (fun {O i j h k} e => ⟨trivial, _, kB_some e, by rw [iLe_eq]; exact .bl _⟩) dI
theorem or_gt : OpR X (compareOp .Gt) (RdO T oGt) := or_int (fI := gtI) (rI0_imp op_gt) (fun {O i j h k} e => ⟨trivial, _, kB_some e, by rw [iLt_eq]; exact .bl _⟩) dI
theorem or_ge : OpR X (compareOp .GtE) (RdO T oGe) := or_int (fI := geI) (rI0_imp op_ge) (fun {O i j h k} e => ⟨trivial, _, kB_some e, by rw [iLe_eq]; exact .bl _⟩) dI
theorem ur_neg : UnR X (unaryOp .USub) (RdU T oNeg) := by
  intro pins s σ H x v Q I rx hq
  obtain ⟨O, ρ, F, d, h, k, rp, rd, eq, pk⟩ := hq
  obtain ⟨i, ei, e⟩ := dInt_some eq
  subst ei
  refine un_neg pins s σ H x v Q I rx ⟨i, rd.int_inv, pk.now rp (kI_some e) ?_⟩
  rw [iNeg_eq]
  exact .int _
end SW
end
section
/-! Operators on texts, tuples, lists; equality, in; subscripts, slices. -/
namespace SW
open PySem PySem.Spec PyProof.Rows L2 SlX
variable {T : Tab} {O : Out} {ρ ρ1 ρ' : List Addr} {F F1 F' : Fz} {H H1 H' : Hp} {h h1 : CH} {s : SW.St} {σ : L2.St} {k : K} {x : KX} {Q : VK} {W : WX} {X : Cx}
theorem tx_app (a b : List Nat) : tx a ++ tx b = tx (a ++ b) := by
  show (⟨a.toArray ++ b.toArray⟩ : Str) = ⟨(a ++ b).toArray⟩
  rw [List.append_toArray]
theorem tx_len (a : List Nat) : (tx a).length = a.length := by
  show a.toArray.size = _
  simp
theorem sOk.app {a b : List Nat} (ha : sOk a) (hb : sOk b) (h : (a ++ b).length ≤ mx) : sOk (a ++ b) := ⟨h, fun c hc => (List.mem_append.mp hc).elim (ha.2 c) (hb.2 c)⟩
theorem mx_line {n : Nat} (h : n ≤ mx) : n ≤ sizeLine := line_of h
theorem mx2_line {n m : Nat} (h : n ≤ mx) (h' : m ≤ mx) : n + m ≤ sizeLine := by
  have : n ≤ 1000000 := h
  have : m ≤ 1000000 := h'
  rw [sizeLine_eq]; omega
theorem RVs.app : ∀ {a : List DV} {va : List V} {b : List DV} {vb : List V}, RVs T F H a va → RVs T F H b vb → RVs T F H (a ++ b) (va ++ vb)
  | _, _, _, _, .nil, r => r
  | _, _, _, _, .cons q t, r => .cons q (RVs.app t r)
theorem RVl.app : ∀ {a : List DV} {va : List V} {b : List DV} {vb : List V}, RVl T ρ F H a va → RVl T ρ F H b vb → RVl T ρ F H (a ++ b) (va ++ vb)
  | _, _, _, _, .nil, r => r
  | _, _, _, _, .cons q t, r => .cons q (RVl.app t r)
theorem addLs_ok {mk : Bool} {e : DV} {l : List DV} {pins : List (Addr × Obj)} {st : Shared} {x y : V} {v u : Value} (rp : Rep T ρ F H h) (I : Inv X pins σ H st) (rx : RelV x v) (ry : RelV y u) (hx : ∃ a vs, x = .ref a ∧ H a = some (.lst vs) ∧ RVl T ρ F H l vs ∧ l.length ≤ mx) (re : RV T ρ F H e y)
    (eq : addLs mk l e h k = some O) (pk : PostK T O ρ F H k Q) : wpAny (model X.prog X.w) X.A (binaryOp .Add v u) (EP X pins σ Q) X.xe st := by
  obtain ⟨a, vs, e1, e2, q, n⟩ := hx
  obtain ⟨b, l2, vs2, e3, e4, q2, n2, eq⟩ := dList_some eq rp re
  rw [appK_eq] at eq
  obtain ⟨n3, eq⟩ := lenBelow_some eq
  refine op_cat pins st σ H x y v u Q I rx ry ⟨a, b, vs, vs2, e1, e3, e2, e4, ?_, post_mk rp n3 (q.app q2) eq pk⟩
  rw [← q.len, ← q2.len]
  exact mx2_line n n2
theorem or_add (mk : Bool) : OpR X (binaryOp .Add) (RdO T (oAdd mk)) := by
  intro pins st σ H x y v u Q I rx ry hq
  obtain ⟨O, ρ, F, d, e, h, k, rp, rd, re, eq, pk⟩ := hq
  cases d with
  | int i =>
    obtain ⟨j, ej, e1⟩ := dInt_some (show dInt e _ = some O from eq)
    subst ej
    refine op_add pins st σ H x y v u Q I rx ry ⟨i, j, rd.int_inv, re.int_inv, pk.now rp (kI_some e1) ?_⟩
    rw [iAdd_eq]
    exact .int _
  | str a =>
    obtain ⟨b, eb, e1⟩ := dStr_some (show dStr e _ = some O from eq)
    subst eb
    rw [appK_eq] at e1
    obtain ⟨n3, e1⟩ := lenBelow_some e1
    obtain ⟨ex, oa⟩ := rd.str_inv
    obtain ⟨ey, ob⟩ := re.str_inv
    refine op_add_str pins st σ H x y v u Q I rx ry ⟨tx a, tx b, ex, ey, ?_, ?_⟩
    · rw [tx_len, tx_len]; exact mx2_line oa.1 ob.1
    · rw [tx_app]
      exact pk.now rp e1 (.str (oa.app ob n3))
  | tup a =>
    obtain ⟨b, eb, e1⟩ := dTup_some (show dTup e _ = some O from eq)
    subst eb
    rw [appK_eq] at e1
    obtain ⟨n3, e1⟩ := lenBelow_some e1
    obtain ⟨p, vs, ex, fp, hp, ra, na⟩ := rd.tup_inv
    obtain ⟨p2, vs2, ey, fp2, hp2, rb, nb⟩ := re.tup_inv
    refine op_catA pins st σ H x y v u Q I rx ry ⟨p, p2, vs, vs2, ex, ey, .inl (.inl hp), .inl (.inl hp2), ?_, fun z => ?_, fun _ z => ?_, fun _ _ => post_tup rp n3 (ra.app rb) e1 pk⟩
    · rw [← ra.length, ← rb.length]; exact mx2_line na nb
    · have za : a = [] := List.length_eq_zero_iff.mp (by rw [ra.length, z]; rfl)
      subst za
      exact pk.now rp e1 (.tup fp2 hp2 rb nb)
    · have zb : b = [] := List.length_eq_zero_iff.mp (by rw [rb.length, z]; rfl)
      subst zb
      refine pk.now rp e1 ?_
      rw [List.append_nil]
      exact .tup fp hp ra na
  | lst l =>
    obtain ⟨a, vs, e1, _, e2, q, n⟩ := rd.lst_inv
    exact addLs_ok rp I rx ry ⟨a, vs, e1, e2, q.rvl, n⟩ re eq pk
  | ref i =>
    obtain ⟨mo, em, e1⟩ := nthK_some (show nthK h i _ = some O from eq)
    obtain ⟨n, l, el, e1⟩ := mLst_some e1
    subst el
    obtain ⟨a, ea, b1, b2, vs, e2, q⟩ := rp.cells i _ em
    obtain ⟨a', ev, ea'⟩ := rd.ref_inv
    rw [ea] at ea'
    cases ea'
    exact addLs_ok rp I rx ry ⟨a, vs, ev, e2, q, Nat.le_trans b1 b2⟩ re e1 pk
  | _ => cases eq
/-! ### * -/
noncomputable section
/-- a list n times -/
def repK {α : Type} (l : List α) (n : Nat) (k : List α → A) : A := @Nat.rec (fun _ => List α → (List α → A) → A) (fun acc k => k acc) (fun _ ih acc k => appK l acc fun acc => ih acc k) n [] k
def nOf (i : Int) (f : Nat → A) : A := @Int.rec (fun _ => (Nat → A) → A) (fun n f => f n) (fun _ f => f 0) i f
def mulS : List Nat → Op2r := fun a e h k => dInt e fun j => bsel (iLe (.negSucc 999) j) (nOf j fun n => bsel (Nat.ble n 1000) (lenK a 0 fun m => bsel (Nat.ble m 1000) (repK a n fun c => k (.str c) h) none) none) none
def mulT : List DV → Op2r := fun a e h k => dInt e fun j => nOf j fun n => bsel (Nat.ble n 1000) (lenK a 0 fun m => bsel (Nat.ble m 1000) (bsel (Nat.ble 1 m) (bsel (Nat.ble 2 n) (repK a n fun c => k (.tup c) h) none) none) none) none
def mulL (mk : Bool) : List DV → Op2r := fun a e h k => dInt e fun j => bsel (iLe (.negSucc 999) j) (nOf j fun n => bsel (Nat.ble n 1000) (lenK a 0 fun m => bsel (Nat.ble m 1000) (repK a n fun c => mkL mk c h k) none) none) none
def oMul (mk : Bool) : Op2 := opBy mulI mulS mulT (mulL mk) badR
end
theorem rep_go {α : Type} (l : List α) : ∀ (n : Nat) (acc : List α) (k : List α → A), @Nat.rec (fun _ => List α → (List α → A) → A) (fun acc k => k acc) (fun _ ih acc k => appK l acc fun acc => ih acc k) n acc k = k ((List.replicate n l).flatten ++ acc)
  | 0, acc, k => rfl
  | n + 1, acc, k => by
    show appK l acc _ = _
    rw [appK_eq, rep_go l n (l ++ acc) k]
    congr 1
    rw [← List.append_assoc, List.replicate_succ', List.flatten_append]
    simp
theorem repK_eq {α : Type} (l : List α) (n : Nat) (k : List α → A) : repK l n k = k (List.replicate n l).flatten := by
  unfold repK
  rw [rep_go, List.append_nil]
theorem nOf_eq (i : Int) (f : Nat → A) : nOf i f = f i.toNat := by cases i <;> rfl
theorem flat_len {α : Type} (l : List α) (n : Nat) : (List.replicate n l).flatten.length = n * l.length := by
  induction n with
  | zero => simp
  | succ n ih => rw [List.replicate_succ, List.flatten_cons, List.length_append, ih, Nat.succ_mul]; omega
theorem flat_mem {α : Type} {l : List α} {n : Nat} {a : α} (h : a ∈ (List.replicate n l).flatten) : a ∈ l := by
  obtain ⟨m, hm, ha⟩ := List.mem_flatten.mp h
  rw [List.mem_replicate] at hm
  exact hm.2 ▸ ha
theorem RVs.rep {a : List DV} {va : List V} (r : RVs T F H a va) : ∀ n, RVs T F H (List.replicate n a).flatten (List.replicate n va).flatten
  | 0 => .nil
  | n + 1 => by
    rw [List.replicate_succ, List.replicate_succ, List.flatten_cons, List.flatten_cons]
    exact r.app (RVs.rep r n)
theorem small_mul {n m : Nat} (h1 : n ≤ 1000) (h2 : m ≤ 1000) : n * m ≤ mx := Nat.le_trans (Nat.mul_le_mul h1 h2) (by decide)

theorem foldl_repN (its : List Nat) : ∀ (k : Nat) (acc : List Nat),
    List.foldl (fun x1 x2 => x1 ++ x2) acc.toArray (List.replicate k its.toArray) = (acc ++ (List.replicate k its).flatten).toArray
  | 0, acc => by simp
  | k + 1, acc => by
    have e : acc.toArray ++ its.toArray = (acc ++ its).toArray := by simp
    have e2 : (acc ++ its) ++ (List.replicate k its).flatten = acc ++ (List.replicate (k + 1) its).flatten := by
      rw [List.replicate_succ, List.flatten_cons, List.append_assoc]
    rw [← e2, ← foldl_repN its k (acc ++ its), ← e, List.replicate_succ, List.foldl_cons]
theorem txt_mul (a : List Nat) (n : Int) : Txt.mul (tx a) n = tx (List.replicate n.toNat a).flatten := by
  unfold Txt.mul
  by_cases h1 : n < 1
  · rw [if_pos h1, show n.toNat = 0 by omega]
    rfl
  · rw [if_neg h1]
    by_cases h2 : (n == 1 || (tx a).length == 0) = true
    · rw [if_pos h2]
      rcases Bool.or_eq_true_iff.mp h2 with h | h
      · have : n = 1 := by simpa using h
        subst this
        simp
      · rw [tx_len] at h
        have : a = [] := by simpa using h
        subst this
        congr 1
        simp
    · rw [if_neg h2]
      have := foldl_repN a n.toNat []
      rw [List.nil_append] at this
      exact congrArg Str.mk this
theorem div_big {n : Int} {m : Nat} (h1 : 0 < n) (h2 : n ≤ 1000) (h3 : m ≤ 1000) : ¬ ((m : Int) > (2 ^ 63 - 1) / n) := by
  have h4 : (1000 : Int) ≤ (2 ^ 63 - 1) / n := by
    rw [Int.le_ediv_iff_mul_le h1]
    have : (1000 : Int) * n ≤ 1000 * 1000 := by omega
    omega
  omega
theorem mul_ok {a : List Nat} {j : Int} (hj : j.toNat ≤ 1000) (hl : -(2 ^ 63) ≤ j) (ha : a.length ≤ 1000) : MulOk (tx a) j := by
  have h1 : (decide (j < -(2 ^ 63 : Int)) || decide (j ≥ 2 ^ 63)) = false := by
    rw [Bool.or_eq_false_iff]
    exact ⟨decide_eq_false (by omega), decide_eq_false (by omega)⟩
  refine ⟨h1, fun n1 _ => ?_, fun n1 _ => ?_⟩
  · rw [tx_len]
    exact div_big (by omega) (by omega) ha
  · rw [tx_len]
    have : a.length * j.toNat ≤ mx := small_mul ha hj
    unfold PySem.Builtin.Str.tooLong
    exact decide_eq_false (Nat.not_lt.mpr (mx_line this))
theorem or_mul (mk : Bool) : OpR X (binaryOp .Mult) (RdO T (oMul mk)) := by
  intro pins st σ H x y v u Q I rx ry hq
  obtain ⟨O, ρ, F, d, e, h, k, rp, rd, re, eq, pk⟩ := hq
  cases d with
  | int i =>
    obtain ⟨j, ej, e1⟩ := dInt_some (show dInt e _ = some O from eq)
    subst ej
    obtain ⟨e2, e3⟩ := bsel_some e1
    refine op_mulW pins st σ H x y v u Q I rx ry ⟨i, j, rd.int_inv, re.int_inv, ?_, pk.now rp (kI_some e3) ?_⟩
    · have := Nat.le_of_ble_eq_true e2
      rw [bits_eq, bits_eq] at this
      exact this
    · rw [iMul_eq]; exact .int _
  | str a =>
    obtain ⟨j, ej, e1⟩ := dInt_some (show dInt e _ = some O from eq)
    subst ej
    obtain ⟨e0, e1⟩ := bsel_some e1
    rw [nOf_eq] at e1
    obtain ⟨e2, e1⟩ := bsel_some e1
    rw [lenK_eq, Nat.zero_add] at e1
    obtain ⟨e3, e1⟩ := bsel_some e1
    rw [repK_eq] at e1
    have hj := Nat.le_of_ble_eq_true e2
    have ha := Nat.le_of_ble_eq_true e3
    rw [iLe_eq] at e0
    have h0 : (-1000 : Int) ≤ j := of_decide_eq_true e0
    obtain ⟨ex, oa⟩ := rd.str_inv
    have ey := re.int_inv
    subst ex ey
    obtain ⟨t, rfl⟩ := rx
    obtain ⟨t', rfl⟩ := ry
    refine SB.mul (mul_ok hj (by omega) ha) fun t' k' => ⟨.str (Txt.mul (tx a) j), H, I.tok _, ⟨_, rfl⟩, ?_⟩
    rw [txt_mul]
    exact pk.now rp e1 (.str ⟨by rw [flat_len]; exact small_mul hj ha, fun c hc => oa.2 c (flat_mem hc)⟩)
  | tup a =>
    obtain ⟨j, ej, e1⟩ := dInt_some (show dInt e _ = some O from eq)
    subst ej
    rw [nOf_eq] at e1
    obtain ⟨e2, e1⟩ := bsel_some e1
    rw [lenK_eq, Nat.zero_add] at e1
    obtain ⟨e3, e1⟩ := bsel_some e1
    obtain ⟨e4, e1⟩ := bsel_some e1
    obtain ⟨e5, e1⟩ := bsel_some e1
    rw [repK_eq] at e1
    have hj := Nat.le_of_ble_eq_true e2
    have ha := Nat.le_of_ble_eq_true e3
    have h4 := Nat.le_of_ble_eq_true e4
    have h5 := Nat.le_of_ble_eq_true e5
    obtain ⟨p, vs, ex, fp, hp, ra, na⟩ := rd.tup_inv
    have ln := ra.length
    refine op_repT pins st σ H x y v u Q I rx ry ⟨p, j, vs, ex, re.int_inv, .inl (.inl hp), fun z => ?_, by omega, by omega, by omega, post_tup rp (by rw [flat_len]; exact small_mul hj ha) (ra.rep _) e1 pk⟩
    rw [z] at ln
    simp at ln
    subst ln
    exact absurd h4 (by decide)
  | lst a =>
    obtain ⟨j, ej, e1⟩ := dInt_some (show dInt e _ = some O from eq)
    subst ej
    obtain ⟨e0, e1⟩ := bsel_some e1
    rw [nOf_eq] at e1
    obtain ⟨e2, e1⟩ := bsel_some e1
    rw [lenK_eq, Nat.zero_add] at e1
    obtain ⟨e3, e1⟩ := bsel_some e1
    rw [repK_eq] at e1
    have hj := Nat.le_of_ble_eq_true e2
    have ha := Nat.le_of_ble_eq_true e3
    rw [iLe_eq] at e0
    have h0 : (-1000 : Int) ≤ j := of_decide_eq_true e0
    obtain ⟨p, vs, ex, fp, hp, ra, na⟩ := rd.lst_inv
    refine op_rep pins st σ H x y v u Q I rx ry ⟨p, j, vs, ex, re.int_inv, hp, by omega, by omega, mx_line (by rw [← ra.length]; exact small_mul ha hj), post_mk rp (by rw [flat_len]; exact small_mul hj ha) (ra.rep _).rvl e1 pk⟩
  | _ => cases eq
/-! ### equality, in, is -/
noncomputable section
/-- a list cell as the list that it holds -/
def dDeref (d : DV) (h : CH) (f : DV → A) : A := @DV.rec (fun _ => A) (fun _ => Unit) (f .non) (fun b => f (.bl b)) (fun i => f (.int i)) (fun s => f (.str s)) (fun l _ => f (.tup l)) (fun l _ => f (.lst l)) (fun c l _ => f (.ins c l)) (fun a b => f (.rng a b))
  (fun i => nthK h i fun mo => mLst mo fun _ l => nrs l (f (.lst l))) () (fun _ _ _ _ => ()) d
def dData (d : DV) (h : CH) (f : DV → A) : A := dDeref d h fun d => bsel (dep d 60) (f d) none
def oEq : Op2 := fun a b h k => dData a h fun a => dData b h fun b => kB (eqD a b) h k
def oNe : Op2 := fun a b h k => dData a h fun a => dData b h fun b => bsel (eqD a b) (k (.bl false) h) (k (.bl true) h)
def oIsN : Op1 := fun d h k => kB (isNon d) h k
def oNotN : Op1 := fun d h k => bsel (isNon d) (k (.bl false) h) (k (.bl true) h)
def anyEq (d : DV) (l : List DV) : Bool := @List.rec DV (fun _ => Bool) false (fun e _ ih => @Bool.rec (fun _ => Bool) ih true (eqD e d)) l
def anyNat (c : Nat) (l : List Nat) : Bool := @List.rec Nat (fun _ => Bool) false (fun e _ ih => @Bool.rec (fun _ => Bool) ih true (Nat.beq e c)) l
def flatD (d : DV) : Bool := @DV.rec (fun _ => Bool) (fun _ => Unit) true (fun _ => true) (fun _ => true) (fun _ => true) (fun _ _ => false) (fun _ _ => false) (fun _ _ _ => false) (fun _ _ => false) (fun _ => false) () (fun _ _ _ _ => ()) d
def flats (l : List DV) : Bool := @List.rec DV (fun _ => Bool) true (fun e _ ih => @Bool.rec (fun _ => Bool) false ih (flatD e)) l
/-- one sign -/
def oneSign (s : List Nat) (f : Nat → A) : A := @List.rec Nat (fun _ => A) none (fun c r _ => @List.rec Nat (fun _ => A) (f c) (fun _ _ _ => none) r) s
def inL (neg : Bool) (a : DV) (l : List DV) (h : CH) (k : K) : A := bsel (dep a 60) (bsel (deps l 59) (bsel (anyEq a l) (kB (!neg) h k) (kB neg h k)) none) none
def inT (neg : Bool) (a : DV) (l : List DV) (h : CH) (k : K) : A := bsel (flatD a) (bsel (flats l) (bsel (anyEq a l) (kB (!neg) h k) (kB neg h k)) none) none
def inS (neg : Bool) (a : DV) (s : List Nat) (h : CH) (k : K) : A := dStr a fun z => oneSign z fun c => bsel (anyNat c s) (kB (!neg) h k) (kB neg h k)
def oInN (neg : Bool) : Op2 := fun a b h k => dDeref b h fun b => @DV.rec (fun _ => A) (fun _ => Unit) none (fun _ => none) (fun _ => none) (fun s => inS neg a s h k) (fun l _ => inT neg a l h k) (fun l _ => inL neg a l h k) (fun _ _ _ => none) (fun _ _ => none) (fun _ => none) () (fun _ _ _ _ => ()) b
end
/-- what a value is behind dDeref: the same object, maybe a cell's list -/
inductive RD (T : Tab) (ρ : List Addr) (F : Fz) (H : Hp) : DV → V → Prop
  | imm {d v} : RVI T F H d v → RD T ρ F H d v
  | cell {l vs a} : a ∈ ρ → H a = some (.lst vs) → RVs T F H l vs → l.length ≤ mx → RD T ρ F H (.lst l) (.ref a)
theorem dDeref_some {d : DV} {v : V} {f : DV → A} (e : dDeref d h f = some O) (rp : Rep T ρ F H h) (r : RV T ρ F H d v) : ∃ d', RD T ρ F H d' v ∧ f d' = some O := by
  cases d with
  | ref i =>
    obtain ⟨mo, em, e1⟩ := nthK_some (show nthK h i _ = some O from e)
    obtain ⟨n, l, el, e1⟩ := mLst_some e1
    subst el
    obtain ⟨nn, e1⟩ := nrs_some e1
    obtain ⟨a, ea, b1, b2, vs, e2, q⟩ := rp.cells i _ em
    obtain ⟨a', ev, ea'⟩ := r.ref_inv
    rw [ea] at ea'
    cases ea'
    subst ev
    exact ⟨_, .cell (List.mem_of_getElem? ea) e2 (q.imm nn) (Nat.le_trans b1 b2), e1⟩
  | _ => exact ⟨_, .imm (r.imm_of rfl), e⟩
theorem RD.lst_inv {l : List DV} {v : V} (r : RD T ρ F H (.lst l) v) : ∃ a vs, v = .ref a ∧ H a = some (.lst vs) ∧ RVs T F H l vs ∧ l.length ≤ mx := by
  cases r with
  | imm r => cases r with | lst f e q n => exact ⟨_, _, rfl, e, q, n⟩
  | cell m e q n => exact ⟨_, _, rfl, e, q, n⟩
theorem RD.tup_inv {l : List DV} {v : V} (r : RD T ρ F H (.tup l) v) : ∃ a vs, v = .ref a ∧ F a ∧ H a = some (.tup vs) ∧ RVs T F H l vs ∧ l.length ≤ mx := by
  cases r with
  | imm r => cases r with | tup f e q n => exact ⟨_, _, rfl, f, e, q, n⟩
theorem RD.str_inv {z : List Nat} {v : V} (r : RD T ρ F H (.str z) v) : v = .str (tx z) ∧ sOk z := by
  cases r with
  | imm r => cases r with | str q => exact ⟨rfl, q⟩
theorem RD.dp {d : DV} {n : Nat} {v : V} {K : PySem.W.Frag} (h : dep d n = true) (r : RD T ρ F H d v) (hn : n ≤ 64) : Dp K H v (toPy d) ∧ SeqAt.shaped (toPy d) = true := by
  cases r with
  | imm r => exact ⟨dp_of d n _ h r, shaped_of h r hn⟩
  | cell m e q l =>
    obtain ⟨m', _, h'⟩ := dep_lst h
    subst n
    refine ⟨.lst (.inl (.inl e)) (dps_of _ _ _ h' q), ?_⟩
    obtain ⟨h1, h2⟩ := deps_ok _ _ _ h' q
    unfold SeqAt.shaped
    have e1 : (toPy (.lst ‹_›)).canLay0 = true := h1
    simp only [toPy, PyData.canLay0, PyData.depth] at *
    rw [h1, Bool.true_and]
    exact decide_eq_true (by omega)
theorem dData_some {d : DV} {v : V} {f : DV → A} (e : dData d h f = some O) (rp : Rep T ρ F H h) (r : RV T ρ F H d v) : ∃ d', RD T ρ F H d' v ∧ dep d' 60 = true ∧ f d' = some O := by
  obtain ⟨d', r', e⟩ := dDeref_some e rp r
  obtain ⟨e1, e2⟩ := bsel_some e
  exact ⟨d', r', e1, e2⟩
theorem or_eq (hu : X.A.units + 64 < cLine) : OpR X (compareOp .Eq) (RdO T oEq) := by
  intro pins st σ H x y v u Q I rx ry hq
  obtain ⟨O, ρ, F, d, e, h, k, rp, rd, re, eq, pk⟩ := hq
  obtain ⟨d', r1, h1, eq⟩ := dData_some eq rp rd
  obtain ⟨e', r2, h2, eq⟩ := dData_some eq rp re
  obtain ⟨p1, s1⟩ := r1.dp h1 (by decide)
  obtain ⟨p2, s2⟩ := r2.dp h2 (by decide)
  refine op_eqD hu pins st σ H x y v u Q I rx ry ⟨_, _, p1, p2, s1, s2, ?_⟩
  rw [← eqD_ok d' e' 60 60 h1 h2]
  exact pk.now rp (kB_some eq) (.bl _)
theorem or_ne (hu : X.A.units + 64 < cLine) : OpR X (compareOp .NotEq) (RdO T oNe) := by
  intro pins st σ H x y v u Q I rx ry hq
  obtain ⟨O, ρ, F, d, e, h, k, rp, rd, re, eq, pk⟩ := hq
  obtain ⟨d', r1, h1, eq⟩ := dData_some eq rp rd
  obtain ⟨e', r2, h2, eq⟩ := dData_some eq rp re
  obtain ⟨p1, s1⟩ := r1.dp h1 (by decide)
  obtain ⟨p2, s2⟩ := r2.dp h2 (by decide)
  refine op_neD hu pins st σ H x y v u Q I rx ry ⟨_, _, p1, p2, s1, s2, ?_⟩
  rw [← eqD_ok d' e' 60 60 h1 h2]
  rcases bsel2_some eq with ⟨b, eq⟩ | ⟨b, eq⟩
  · rw [b]; exact pk.now rp eq (.bl _)
  · rw [b]; exact pk.now rp eq (.bl _)
theorem isNon_eq {d : DV} {v : V} (r : RV T ρ F H d v) : decide (v = .non) = isNon d := by
  cases r with
  | imm r => cases r <;> first | rfl | exact decide_eq_false (fun z => by cases z)
  | ref e => exact decide_eq_false (fun z => by cases z)
/-- a is None -/
theorem snd_isN {a : Expr} {ca : Code} {pos pos' : Pos} {j : Nat} (ha : Snd T X W a ca) : Snd T X W (.Compare a [.Is] [.Constant .none j pos'] pos) (eUn oIsN ca) := by
  refine PE.imp (pe_cmp (pc_isN ha)) fun σ H Q hq => ?_
  obtain ⟨O, ρ, F, s, h, k, x, rp, rs, e, pk, px⟩ := hq
  refine RdE.seq rp rs e px fun u h1 ρ1 F1 H1 u' e1 l1 r1 ru rs1 px1 => ?_
  rw [isNon_eq ru]
  exact (pk.le l1).now r1 (kB_some e1) (.bl _)
theorem snd_notN {a : Expr} {ca : Code} {pos pos' : Pos} {j : Nat} (ha : Snd T X W a ca) : Snd T X W (.Compare a [.IsNot] [.Constant .none j pos'] pos) (eUn oNotN ca) := by
  refine PE.imp (pe_cmp (pc_notN ha)) fun σ H Q hq => ?_
  obtain ⟨O, ρ, F, s, h, k, x, rp, rs, e, pk, px⟩ := hq
  refine RdE.seq rp rs e px fun u h1 ρ1 F1 H1 u' e1 l1 r1 ru rs1 px1 => ?_
  rw [isNon_eq ru]
  rcases bsel2_some e1 with ⟨b, eq⟩ | ⟨b, eq⟩
  · rw [b]; exact (pk.le l1).now r1 eq (.bl _)
  · rw [b]; exact (pk.le l1).now r1 eq (.bl _)
end SW
end
section
/-! in; subscripts, slices. -/
namespace SW
open PySem PySem.Spec PyProof.Rows L2 SlX
variable {T : Tab} {O : Out} {ρ ρ1 ρ' : List Addr} {F F1 F' : Fz} {H H1 H' : Hp} {h h1 : CH} {s : SW.St} {σ : L2.St} {k : K} {x : KX} {Q : VK} {W : WX} {X : Cx}
theorem brec_or (b : Bool) (y : Bool) : @Bool.rec (fun _ => Bool) y true b = (b || y) := by cases b <;> rfl
theorem anyEq_eq (d : DV) : ∀ l : List DV, anyEq d l = l.any fun e => eqD e d
  | [] => rfl
  | e :: l => by
    show @Bool.rec (fun _ => Bool) (anyEq d l) true (eqD e d) = _
    rw [brec_or, anyEq_eq d l]; rfl
theorem anyNat_eq (c : Nat) : ∀ l : List Nat, anyNat c l = decide (c ∈ l)
  | [] => by simp [anyNat]
  | e :: l => by
    show @Bool.rec (fun _ => Bool) (anyNat c l) true (Nat.beq e c) = _
    rw [brec_or, anyNat_eq c l]
    by_cases q : e = c
    · subst q; simp [Nat.beq_refl]
    · have h1 : Nat.beq e c = false := by
        cases z : Nat.beq e c with
        | false => rfl
        | true => exact absurd (Nat.eq_of_beq_eq_true z) q
      rw [h1]
      simp [Ne.symm q]
theorem any_data {d : DV} (hd : dep d 60 = true) : ∀ l : List DV, deps l 59 = true → (toPys l).any (fun z => PyData.eqv z (toPy d)) = anyEq d l
  | [], _ => rfl
  | e :: l, h => by
    have h' : (dep e 59 && deps l 59) = true := by rw [← brec_and]; exact h
    obtain ⟨a, b⟩ := Bool.and_eq_true_iff.mp h'
    show (PyData.eqv (toPy e) (toPy d) || (toPys l).any _) = @Bool.rec (fun _ => Bool) (anyEq d l) true (eqD e d)
    rw [brec_or, any_data hd l b, eqD_ok e d 59 60 a hd]
theorem flat_v {d : DV} {v : V} (h : flatD d = true) (r : RVI T F H d v) : flatV v = true ∧ dep d 60 = true := by
  cases r <;> first | exact ⟨rfl, rfl⟩ | cases h
theorem flat_eq {d e : DV} {v u : V} (h : flatD d = true) (h2 : flatD e = true) (r : RVI T F H d v) (r2 : RVI T F H e u) : eqV v u = eqD d e := by
  cases r with
  | non => cases r2 <;> first | rfl | cases h2
  | bl b => cases r2 with
    | bl c => exact (bEq_eq b c).symm
    | int j => exact (iEq_eq _ _).symm.trans (by cases b <;> rfl)
    | non => rfl
    | str _ => rfl
    | _ => cases h2
  | int b => cases r2 with
    | bl c => exact (iEq_eq _ _).symm.trans (by cases c <;> rfl)
    | int j => exact (iEq_eq _ _).symm
    | non => rfl
    | str _ => rfl
    | _ => cases h2
  | str b => cases r2 with
    | str c => exact tx_beq _ _
    | bl c => rfl
    | int c => rfl
    | non => rfl
    | _ => cases h2
  | _ => cases h
theorem flats_c {d : DV} {l : List DV} (h : flats (d :: l) = true) : flatD d = true ∧ flats l = true := by
  have h' : (flatD d && flats l) = true := by rw [← brec_and]; exact h
  exact Bool.and_eq_true_iff.mp h'
theorem flats_v : ∀ {l : List DV} {vs : List V}, flats l = true → RVs T F H l vs → vs.all flatV = true
  | _, _, _, .nil => rfl
  | _, _, h, .cons r t => by
    obtain ⟨a, b⟩ := flats_c h
    simp [(flat_v a r).1, flats_v b t]
theorem flats_any {d : DV} {v : V} (hd : flatD d = true) (rd : RVI T F H d v) : ∀ {l : List DV} {vs : List V}, flats l = true → RVs T F H l vs → inV v vs = anyEq d l
  | _, _, _, .nil => rfl
  | e :: l, u :: vs, h, .cons r t => by
    obtain ⟨a, b⟩ := flats_c h
    show (eqV u v || inV v vs) = @Bool.rec (fun _ => Bool) (anyEq d l) true (eqD e d)
    rw [brec_or, flats_any hd rd b t, flat_eq a hd r rd]
theorem kB2 {b neg : Bool} (e : bsel b (kB (!neg) h k) (kB neg h k) = some O) : k (.bl (if neg then !b else b)) h = some O := by
  cases b <;> cases neg <;> exact e
theorem oneSign_some {z : List Nat} {f : Nat → A} (e : oneSign z f = some O) : ∃ c, z = [c] ∧ f c = some O := by
  cases z with
  | nil => cases e
  | cons c r => cases r with
    | nil => exact ⟨c, rfl, e⟩
    | cons _ _ => cases e
theorem or_inN {neg : Bool} {op : CmpOp} {fD : R2} {fS : R2} {fT : R2}
    (hD : OpR X (compareOp op) (fun x y H Q => ∃ d ds, Dp X.K H x d ∧ Dp X.K H y (.list ds) ∧ SeqAt.shaped d = true ∧ SeqAt.shaped (.list ds) = true ∧ Q (.bl (if neg then !ds.any fun z => PyData.eqv z d else ds.any fun z => PyData.eqv z d)) H))
    (hS : OpR X (compareOp op) (fun x y H Q => ∃ (c : Nat) (z : Str), x = .str ⟨#[c]⟩ ∧ y = .str z ∧ Q (.bl (if neg then !decide (c ∈ z.cps.toList) else decide (c ∈ z.cps.toList))) H))
    (hT : OpR X (compareOp op) (rIn X.K neg)) : OpR X (compareOp op) (RdO T (oInN neg)) := by
  intro pins st σ H x y v u Q I rx ry hq
  obtain ⟨O, ρ, F, d, e, h, k, rp, rd, re, eq, pk⟩ := hq
  obtain ⟨e', r2, eq⟩ := dDeref_some eq rp re
  cases e' with
  | str b =>
    obtain ⟨z, ez, e1⟩ := dStr_some (show dStr d _ = some O from eq)
    obtain ⟨c, ec, e1⟩ := oneSign_some e1
    subst ez ec
    obtain ⟨ex, _⟩ := rd.str_inv
    obtain ⟨ey, _⟩ := r2.str_inv
    refine hS pins st σ H x y v u Q I rx ry ⟨c, tx b, ex, ey, ?_⟩
    have : decide (c ∈ (tx b).cps.toList) = anyNat c b := (anyNat_eq c b).symm
    rw [this]
    exact pk.now rp (kB2 e1) (.bl _)
  | tup l =>
    obtain ⟨h1, eq⟩ := bsel_some (show bsel _ _ _ = some O from eq)
    obtain ⟨h2, eq⟩ := bsel_some eq
    obtain ⟨a, vs, ey, f, e1, q, n⟩ := r2.tup_inv
    have rI : RVI T F H d x := rd.imm_of (by cases d <;> first | rfl | cases h1)
    refine hT pins st σ H x y v u Q I rx ry ⟨a, vs, ey, .inr (.inl (.inl e1)), (flat_v h1 rI).1, flats_v h2 q, ?_⟩
    rw [flats_any h1 rI h2 q]
    exact pk.now rp (kB2 eq) (.bl _)
  | lst l =>
    obtain ⟨h1, eq⟩ := bsel_some (show bsel _ _ _ = some O from eq)
    obtain ⟨h2, eq⟩ := bsel_some eq
    have h2' : dep (.lst l) 60 = true := by
      have e : ∀ (l : List DV), @DV.rec_1 (fun _ => Nat → Bool) (fun _ => Nat → Bool) (fun _ => true) (fun _ _ => true) (fun _ _ => true) (fun _ _ => true)
        (fun _ ih n => @Nat.rec (fun _ => Bool) false (fun m _ => ih m) n) (fun _ ih n => @Nat.rec (fun _ => Bool) false (fun m _ => ih m) n) (fun _ _ _ _ => false) (fun _ _ _ => false) (fun _ _ => false)
        (fun _ => true) (fun _ _ a b n => @Bool.rec (fun _ => Bool) false (b n) (a n)) l 59 = deps l 59 := by
        intro l
        induction l with
        | nil => rfl
        | cons d l ih =>
          show @Bool.rec (fun _ => Bool) false _ (dep d 59) = @Bool.rec (fun _ => Bool) false _ (dep d 59)
          rw [ih]
      exact (e l).trans h2
    have rI : RD T ρ F H d x := .imm (rd.imm_of (by cases d <;> first | rfl | cases h1))
    obtain ⟨p1, s1⟩ := rI.dp (K := X.K) h1 (by decide)
    obtain ⟨p2, s2⟩ := r2.dp (K := X.K) h2' (by decide)
    refine hD pins st σ H x y v u Q I rx ry ⟨_, _, p1, p2, s1, s2, ?_⟩
    rw [any_data h1 l h2]
    exact pk.now rp (kB2 eq) (.bl _)
  | _ => cases eq
theorem or_in (hu : X.A.units + 65 < cLine) : OpR X (compareOp .In) (RdO T (oInN false)) :=
  or_inN (neg := false) (fD := rInD X.K) (fS := rInD X.K) (fT := rInD X.K) (op_inD hu) op_in_sign op_in_seq
theorem or_notIn (hu : X.A.units + 65 < cLine) : OpR X (compareOp .NotIn) (RdO T (oInN true)) :=
  or_inN (neg := true) (fD := rInD X.K) (fS := rInD X.K) (fT := rInD X.K) (op_notInD hu) op_notIn_sign op_notIn_seq
/-! ### subscripts -/
noncomputable section
def atK {α : Type} (l : List α) (i : Int) (k : α → A) : A := @Int.rec (fun _ => A) (fun n => nthK l n k) (fun m => lenK l 0 fun n => bsel (Nat.ble (Nat.succ m) n) (nthK l (Nat.sub n (Nat.succ m)) k) none) i
def oIx : Op2 := fun a b h k => dInt b fun i => @DV.rec (fun _ => A) (fun _ => Unit) none (fun _ => none) (fun _ => none) (fun s => atK s i fun c => k (.str [c]) h) (fun l _ => atK l i fun d => k d h) (fun l _ => atK l i fun d => k d h) (fun _ _ _ => none) (fun _ _ => none)
  (fun j => nthK h j fun mo => mLst mo fun _ l => atK l i fun d => k d h) () (fun _ _ _ _ => ()) a
end
theorem atK_some {α : Type} {l : List α} {i : Int} {k : α → A} (e : atK l i k = some O) : ∃ j a, ixN l.length i = some j ∧ l[j]? = some a ∧ k a = some O := by
  cases i with
  | ofNat n =>
    obtain ⟨a, e1, e2⟩ := nthK_some (show nthK l n k = some O from e)
    have hj : n < l.length := (List.getElem?_eq_some_iff.mp e1).1
    refine ⟨n, a, ?_, e1, e2⟩
    unfold ixN
    show (if (0 : Int) ≤ Int.ofNat n then (if Int.ofNat n < (l.length : Int) then some (Int.ofNat n).toNat else none) else _) = _
    rw [if_pos (show (0 : Int) ≤ Int.ofNat n from Int.natCast_nonneg n)]
    have : (Int.ofNat n) < (l.length : Int) := Int.ofNat_lt.mpr hj
    rw [if_pos this]
    rfl
  | negSucc m =>
    have e' : lenK l 0 (fun n => bsel (Nat.ble (Nat.succ m) n) (nthK l (Nat.sub n (Nat.succ m)) k) none) = some O := e
    rw [lenK_eq, Nat.zero_add] at e'
    obtain ⟨e1, e2⟩ := bsel_some e'
    obtain ⟨a, e3, e4⟩ := nthK_some e2
    have := Nat.le_of_ble_eq_true e1
    refine ⟨_, a, ?_, e3, e4⟩
    unfold ixN
    rw [if_neg (by omega), if_pos (by omega)]
    congr 1
    show (Int.negSucc m + l.length).toNat = l.length - (m + 1)
    omega
theorem atI_of {α : Type} {l : List α} {i : Int} {j : Nat} {a : α} (h : ixN l.length i = some j) (e : l[j]? = some a) : atI l i = some a := by
  unfold atI
  rw [h]
  exact e
theorem RVs.at : ∀ {l : List DV} {vs : List V} {j : Nat} {d : DV}, RVs T F H l vs → l[j]? = some d → ∃ v, vs[j]? = some v ∧ RVI T F H d v
  | _, _, _, _, .nil, e => by cases e
  | _, _, 0, _, .cons q t, e => by cases e; exact ⟨_, rfl, q⟩
  | _, _, j + 1, d, .cons q t, e => by
    obtain ⟨v, h1, h2⟩ := RVs.at (j := j) (d := d) t (by simpa using e)
    exact ⟨v, by simpa using h1, h2⟩
theorem RVl.at {l : List DV} {vs : List V} {j : Nat} {d : DV} (r : RVl T ρ F H l vs) (e : l[j]? = some d) : ∃ v, vs[j]? = some v ∧ RV T ρ F H d v := by
  induction r generalizing j with
  | nil => cases e
  | cons q t ih => cases j with
    | zero => cases e; exact ⟨_, rfl, q⟩
    | succ j => exact ih e
theorem ir_ix : IxR X (RdO T oIx) := by
  intro value slice pins st σ H x y v u Q I rx ry hq hs
  obtain ⟨O, ρ, F, d, e, h, k, rp, rd, re, eq, pk⟩ := hq
  obtain ⟨i, ei, e1⟩ := dInt_some eq
  subst ei
  cases d with
  | str b =>
    obtain ⟨j, c, a1, a2, e2⟩ := atK_some (show atK b i _ = some O from e1)
    obtain ⟨ex, ob⟩ := rd.str_inv
    exact ix_str value slice pins st σ H x y v u Q I rx ry ⟨tx b, i, c, ex, re.int_inv, by rw [tx_len]; exact mx_line ob.1, atI_of a1 a2, pk.now rp e2 (.str ⟨(by decide : 1 ≤ 1000000), fun z hz => by rw [List.mem_singleton.mp hz]; exact ob.2 c (List.mem_of_getElem? a2)⟩)⟩ hs
  | tup l =>
    obtain ⟨j, c, a1, a2, e2⟩ := atK_some (show atK l i _ = some O from e1)
    obtain ⟨a, vs, ex, f, e3, q, n⟩ := rd.tup_inv
    obtain ⟨w, ew, rw'⟩ := q.at a2
    exact ix_tup value slice pins st σ H x y v u Q I rx ry ⟨a, vs, i, w, ex, re.int_inv, .inl (.inl e3), atI_of (by rw [← q.length]; exact a1) ew, pk.now rp e2 rw'⟩ hs
  | lst l =>
    obtain ⟨j, c, a1, a2, e2⟩ := atK_some (show atK l i _ = some O from e1)
    obtain ⟨a, vs, ex, f, e3, q, n⟩ := rd.lst_inv
    obtain ⟨w, ew, rw'⟩ := q.at a2
    exact ix_list value slice pins st σ H x y v u Q I rx ry ⟨a, vs, i, w, ex, re.int_inv, .inl (.inl e3), atI_of (by rw [← q.length]; exact a1) ew, pk.now rp e2 rw'⟩ hs
  | ref m =>
    obtain ⟨mo, em, e1⟩ := nthK_some (show nthK h m _ = some O from e1)
    obtain ⟨n, l, el, e1⟩ := mLst_some e1
    subst el
    obtain ⟨j, c, a1, a2, e2⟩ := atK_some e1
    obtain ⟨a, ea, b1, b2, vs, e3, q⟩ := rp.cells m _ em
    obtain ⟨a', ev, ea'⟩ := rd.ref_inv
    rw [ea] at ea'
    cases ea'
    obtain ⟨w, ew, rw'⟩ := q.at a2
    exact ix_list value slice pins st σ H x y v u Q I rx ry ⟨a, vs, i, w, ev, re.int_inv, .inl (.inl e3), atI_of (by rw [← q.len]; exact a1) ew, pk _ _ e2 ρ F H w .refl rp rw'⟩ hs
  | _ => cases e1
theorem snd_ix {o : Op2} {a b : Expr} {ca cb : Code} {pos : Pos} (ho : IxR X (RdO T o)) (ha : Snd T X W a ca) (hb : Snd T X W b cb) (hs : PlainIx b) : Snd T X W (.Subscript a b pos) (eBin o ca cb) :=
  PE.imp (pe_ix ho ha hb hs) fun _ _ _ hq => RdO.of_E hq
/-! ### slices -/
noncomputable section
def takeK {α : Type} (l : List α) (n : Nat) (k : List α → A) : A := @List.rec α (fun _ => Nat → (List α → A) → A) (fun _ k => k []) (fun x _ ih n k => @Nat.rec (fun _ => A) (k []) (fun m _ => ih m (fun l => k (x :: l))) n) l n k
def dropK {α : Type} (l : List α) (n : Nat) (k : List α → A) : A := @List.rec α (fun _ => Nat → (List α → A) → A) (fun _ k => k []) (fun x xs ih n k => @Nat.rec (fun _ => A) (k (x :: xs)) (fun m _ => ih m k) n) l n k
def nMin (a b : Nat) : Nat := @Bool.rec (fun _ => Nat) b a (Nat.ble a b)
def sIxD (n d : Nat) (o : Option Int) : Nat := @Option.rec Int (fun _ => Nat) d (fun i => @Int.rec (fun _ => Nat) (fun m => nMin m n) (fun m => Nat.sub n (Nat.succ m)) i) o
def cutK {α : Type} (l : List α) (lo hi : Option Int) (k : Nat → Nat → Nat → List α → A) : A := lenK l 0 fun n => forceN (sIxD n 0 lo) fun p => forceN (sIxD n n hi) fun q => dropK l p fun l => takeK l (Nat.sub q p) fun l => k n p q l
/-- the whole of a tuple is itself -/
def oSl (mk : Bool) (lo hi : Option Int) : Op1 := fun a h k => @DV.rec (fun _ => A) (fun _ => Unit) none (fun _ => none) (fun _ => none) (fun s => cutK s lo hi fun _ _ _ l => k (.str l) h) (fun l _ => cutK l lo hi fun _ _ _ l => k (.tup l) h) (fun l _ => cutK l lo hi fun _ _ _ l => mkL mk l h k) (fun _ _ _ => none) (fun _ _ => none)
  (fun j => nthK h j fun mo => mLst mo fun _ l => cutK l lo hi fun _ _ _ l => mkL mk l h k) () (fun _ _ _ _ => ()) a
/-- a slice's bound -/
abbrev PCode := SW.St → CH → (Option Int → CH → A) → KX → A
def pNone : PCode := fun _ h k _ => k none h
def pSome (c : Code) : PCode := fun s h k x => c s h (fun d h => dInt d fun i => k (some i) h) x
def eSl (mk : Bool) (a : Code) (lo hi : PCode) : Code := fun s h k x => a s h (fun d h => lo s h (fun l h => hi s h (fun u h => oSl mk l u d h k) x) x) x
end
theorem takeK_eq {α : Type} : ∀ (l : List α) (n : Nat) (k : List α → A), takeK l n k = k (l.take n)
  | [], n, k => by simp; rfl
  | x :: l, 0, k => rfl
  | x :: l, n + 1, k => by
    show takeK l n _ = _
    rw [takeK_eq l n]; rfl
theorem dropK_eq {α : Type} : ∀ (l : List α) (n : Nat) (k : List α → A), dropK l n k = k (l.drop n)
  | [], n, k => by simp; rfl
  | x :: l, 0, k => rfl
  | x :: l, n + 1, k => by
    show dropK l n _ = _
    rw [dropK_eq l n]; rfl
theorem nMin_eq (a b : Nat) : nMin a b = min a b := by
  unfold nMin
  cases z : Nat.ble a b with
  | true => have := Nat.le_of_ble_eq_true z; show a = _; omega
  | false =>
    have : ¬ a ≤ b := fun q => by rw [Nat.ble_eq_true_of_le q] at z; cases z
    show b = _; omega
theorem sIxD_eq (n d : Nat) (o : Option Int) : sIxD n d o = HT.sIx n d o := by
  cases o with
  | none => rfl
  | some i =>
    cases i with
    | ofNat m =>
      show nMin m n = if (Int.ofNat m) < 0 then (Int.ofNat m + (n : Int)).toNat else min (Int.ofNat m).toNat n
      rw [if_neg (by simp), nMin_eq]; rfl
    | negSucc m =>
      show n - (m + 1) = if (Int.negSucc m) < 0 then (Int.negSucc m + (n : Int)).toNat else min (Int.negSucc m).toNat n
      rw [if_pos (Int.negSucc_lt_zero m)]
      omega
/-- the cut of a list -/
def cutL {α : Type} (l : List α) (lo hi : Option Int) : List α := (l.drop (HT.sIx l.length 0 lo)).take (HT.sIx l.length l.length hi - HT.sIx l.length 0 lo)
theorem cutK_eq {α : Type} {l : List α} {lo hi : Option Int} {k : Nat → Nat → Nat → List α → A} : cutK l lo hi k = k l.length (HT.sIx l.length 0 lo) (HT.sIx l.length l.length hi) (cutL l lo hi) := by
  unfold cutK
  rw [lenK_eq, Nat.zero_add, forceN_eq, forceN_eq, dropK_eq, takeK_eq, sIxD_eq, sIxD_eq]
  rfl
theorem cutL_len {α : Type} (l : List α) (lo hi : Option Int) : (cutL l lo hi).length ≤ l.length := by
  unfold cutL
  rw [List.length_take, List.length_drop]
  omega
theorem cutL_mem {α : Type} {l : List α} {lo hi : Option Int} {a : α} (h : a ∈ cutL l lo hi) : a ∈ l := List.mem_of_mem_drop (List.mem_of_mem_take h)
theorem RVl.drop {l : List DV} {vs : List V} (r : RVl T ρ F H l vs) : ∀ n, RVl T ρ F H (l.drop n) (vs.drop n) := by
  induction r with
  | nil => intro n; simp; exact .nil
  | cons q t ih => intro n; cases n with
    | zero => exact .cons q t
    | succ n => exact ih n
theorem RVl.take {l : List DV} {vs : List V} (r : RVl T ρ F H l vs) : ∀ n, RVl T ρ F H (l.take n) (vs.take n) := by
  induction r with
  | nil => intro n; simp; exact .nil
  | cons q t ih => intro n; cases n with
    | zero => exact .nil
    | succ n => exact .cons q (ih n)
theorem RVl.cut {l : List DV} {vs : List V} (r : RVl T ρ F H l vs) (lo hi : Option Int) : RVl T ρ F H (cutL l lo hi) (cutV vs lo hi) := by
  unfold cutL cutV
  rw [r.len]
  exact (r.drop _).take _
theorem RVs.drop : ∀ {l : List DV} {vs : List V} (n : Nat), RVs T F H l vs → RVs T F H (l.drop n) (vs.drop n)
  | _, _, n, .nil => by simp; exact .nil
  | _, _, 0, .cons q t => .cons q t
  | _, _, n + 1, .cons q t => RVs.drop n t
theorem RVs.take : ∀ {l : List DV} {vs : List V} (n : Nat), RVs T F H l vs → RVs T F H (l.take n) (vs.take n)
  | _, _, n, .nil => by simp; exact .nil
  | _, _, 0, .cons q t => .nil
  | _, _, n + 1, .cons q t => .cons q (RVs.take n t)
theorem RVs.cut {l : List DV} {vs : List V} (r : RVs T F H l vs) (lo hi : Option Int) : RVs T F H (cutL l lo hi) (cutV vs lo hi) := by
  unfold cutL cutV
  rw [r.length]
  exact RVs.take _ (RVs.drop _ r)
theorem cutS_tx (b : List Nat) (lo hi : Option Int) : cutS (tx b) lo hi = tx (cutL b lo hi) := by
  unfold cutS cutL
  rw [tx_len]
theorem cutL_whole {α : Type} {l : List α} {lo hi : Option Int} (h1 : HT.sIx l.length 0 lo = 0) (h2 : HT.sIx l.length l.length hi = l.length) : cutL l lo hi = l := by
  unfold cutL
  rw [h1, h2]
  simp
/-- slices, by the relation of the layer -/
def rSlAny (K : PySem.W.Frag) : V → Option Int → Option Int → Hp → VK → Prop := fun x lo hi H Q => rSlL K x lo hi H Q ∨ rSlA K x lo hi H Q ∨ rSlS x lo hi H Q
theorem sl_any : SlR X (rSlAny X.K) := sl_list.or (sl_tupA.or sl_str)
theorem sl_of {mk : Bool} {lo hi : Option Int} {d : DV} {v : V} (rp : Rep T ρ F H h) (rd : RV T ρ F H d v) (eq : oSl mk lo hi d h k = some O) (pk : PostK T O ρ F H k Q) (K : PySem.W.Frag) : rSlAny K v lo hi H Q := by
  cases d with
  | str b =>
    have e1 : cutK b lo hi _ = some O := eq
    rw [cutK_eq] at e1
    obtain ⟨ex, ob⟩ := rd.str_inv
    refine .inr (.inr ⟨tx b, ex, by rw [tx_len]; exact mx_line ob.1, ?_⟩)
    rw [cutS_tx]
    exact pk.now rp e1 (.str ⟨Nat.le_trans (cutL_len _ _ _) ob.1, fun c hc => ob.2 c (cutL_mem hc)⟩)
  | tup l =>
    have e1 : cutK l lo hi _ = some O := eq
    rw [cutK_eq] at e1
    obtain ⟨a, vs, ex, f, e3, q, n⟩ := rd.tup_inv
    refine .inr (.inl ⟨a, vs, ex, .inl (.inl e3), fun ⟨z1, z2⟩ => ?_, fun _ => post_tup rp (Nat.le_trans (cutL_len _ _ _) n) (q.cut lo hi) e1 pk⟩)
    rw [← q.length] at z1 z2
    rw [cutL_whole z1 z2] at e1
    exact pk.now rp e1 (.tup f e3 q n)
  | lst l =>
    have e1 : cutK l lo hi _ = some O := eq
    rw [cutK_eq] at e1
    obtain ⟨a, vs, ex, f, e3, q, n⟩ := rd.lst_inv
    exact .inl ⟨a, vs, ex, .inl (.inl e3), post_mk rp (Nat.le_trans (cutL_len _ _ _) n) (q.cut lo hi).rvl e1 pk⟩
  | ref m =>
    obtain ⟨mo, em, e1⟩ := nthK_some (show nthK h m _ = some O from eq)
    obtain ⟨n, l, el, e1⟩ := mLst_some e1
    subst el
    have e1 : cutK l lo hi _ = some O := e1
    rw [cutK_eq] at e1
    obtain ⟨a, ea, b1, b2, vs, e3, q⟩ := rp.cells m _ em
    obtain ⟨a', ev, ea'⟩ := rd.ref_inv
    rw [ea] at ea'
    cases ea'
    exact .inl ⟨a, vs, ev, .inl (.inl e3), post_mk rp (Nat.le_trans (cutL_len _ _ _) (Nat.le_trans b1 b2)) (q.cut lo hi) e1 pk⟩
  | _ => cases eq
def RdP (T : Tab) (W : WX) (c : PCode) : TO := fun σ H Q => ∃ (O : Out) (ρ : List Addr) (F : Fz) (s : SW.St) (h : CH) (k : Option Int → CH → A) (x : KX),
  Rep T ρ F H h ∧ RSl T ρ F H s σ ∧ c s h k x = some O ∧ (∀ o h', k o h' = some O → ∀ ρ' F' H', Le ρ F H ρ' F' H' → Rep T ρ' F' H' h' → Q o H') ∧ PostX T O ρ F H x (WE W σ)
def SndP (T : Tab) (X : Cx) (W : WX) (e : Option Expr) (c : PCode) : Prop := PO X e (RdP T W c)
theorem PO.imp {e : Option Expr} {t t' : TO} (p : PO X e t) (i : ∀ σ H Q, t' σ H Q → t σ H Q) : PO X e t' := ⟨fun pins s σ H Q I h => p.run pins s σ H Q I (i _ _ _ h)⟩
theorem sndp_none : SndP T X W none pNone := by
  refine PO.imp po_none fun σ H Q hq => ?_
  obtain ⟨O, ρ, F, s, h, k, x, rp, rs, e, pk, px⟩ := hq
  exact pk none h e ρ F H .refl rp
theorem sndp_some {e : Expr} {c : Code} (he : Snd T X W e c) : SndP T X W (some e) (pSome c) := by
  refine PO.imp (po_some he) fun σ H Q hq => ?_
  obtain ⟨O, ρ, F, s, h, k, x, rp, rs, e, pk, px⟩ := hq
  refine RdE.seq rp rs e px fun u h1 ρ1 F1 H1 u' e1 l1 r1 ru rs1 px1 => ?_
  obtain ⟨i, ei, e2⟩ := dInt_some e1
  subst ei
  exact ⟨i, ru.int_inv, pk (some i) h1 e2 ρ1 F1 H1 l1 r1⟩
theorem snd_slice {mk : Bool} {a : Expr} {lo hi : Option Expr} {ca : Code} {cl ch : PCode} {p2 pos : Pos} (ha : Snd T X W a ca) (hl : SndP T X W lo cl) (hu : SndP T X W hi ch) : Snd T X W (.Subscript a (.Slice lo hi none p2) pos) (eSl mk ca cl ch) := by
  refine PE.imp (pe_slice sl_any ha hl hu) fun σ H Q hq => ?_
  obtain ⟨O, ρ, F, s, h, k, x, rp, rs, e, pk, px⟩ := hq
  refine RdE.seq rp rs e px fun u h1 ρ1 F1 H1 u' e1 l1 r1 ru rs1 px1 => ?_
  refine ⟨O, ρ1, F1, s, h1, _, x, r1, rs1, e1, fun o h2 e2 ρ2 F2 H2 l2 r2 => ?_, px1⟩
  refine ⟨O, ρ2, F2, s, h2, _, x, r2, rs1.le l2, e2, fun o2 h3 e3 ρ3 F3 H3 l3 r3 => ?_, px1.le l2⟩
  exact sl_of r3 ((ru.le l2).le l3) e3 (pk.le ((l1.trans l2).trans l3)) X.K
/-- xs[::-1] -/
noncomputable def oRevL (mk : Bool) : Op1 := fun d h k => dList d h fun l => revK l [] fun l => mkL mk l h k
theorem RVl.rev {l : List DV} {vs : List V} (r : RVl T ρ F H l vs) : RVl T ρ F H l.reverse vs.reverse := by
  induction r with
  | nil => exact .nil
  | cons q t ih =>
    rw [List.reverse_cons, List.reverse_cons]
    exact ih.app (.cons q .nil)
theorem snd_revL {mk : Bool} {e : Expr} {ce : Code} {kk : Nat} {p1 p2 p3 pos : Pos} (he : Snd T X W e ce) : Snd T X W (.Subscript e (.Slice none none (some (.UnaryOp .USub (.Constant (.int 1) kk p1) p2)) p3) pos) (eUn (oRevL mk) ce) := by
  refine PE.imp (pe_revL he) fun σ H Q hq => ?_
  obtain ⟨O, ρ, F, s, h, k, x, rp, rs, e, pk, px⟩ := hq
  refine RdE.seq rp rs e px fun u h1 ρ1 F1 H1 u' e1 l1 r1 ru rs1 px1 => ?_
  obtain ⟨b, l2, vs2, e3, e4, q2, n2, eq⟩ := dList_some e1 r1 ru
  rw [revK_eq, List.append_nil] at eq
  exact ⟨b, vs2, e3, .inl (.inl e4), post_mk r1 (by rw [List.length_reverse]; exact n2) q2.rev eq (pk.le l1)⟩
end SW
end
section
/-! Statements. -/
namespace SW
open PySem PySem.Spec PyProof.Rows L2 SlX
variable {T : Tab} {O : Out} {ρ ρ1 ρ' : List Addr} {F F1 F' : Fz} {H H1 H' : Hp} {h h1 : CH} {s : SW.St} {σ : L2.St} {k : K} {x : KX} {Q : VK} {W : WX} {X : Cx}
def PostN (T : Tab) (O : Out) (ρ : List Addr) (F : Fz) (H : Hp) (n : KN) (Q : L2.St → Hp → Prop) : Prop :=
  ∀ s h', n s h' = some O → ∀ ρ' F' H' σ, Le ρ F H ρ' F' H' → Rep T ρ' F' H' h' → RSl T ρ' F' H' s σ → Q σ H'
theorem PostN.le {n : KN} {Q : L2.St → Hp → Prop} (p : PostN T O ρ F H n Q) (a : Le ρ F H ρ1 F1 H1) : PostN T O ρ1 F1 H1 n Q :=
  fun s h' e ρ' F' H' σ l r z => p s h' e ρ' F' H' σ (a.trans l) r z
theorem PostN.no {Q : L2.St → Hp → Prop} : PostN T O ρ F H none3 Q := fun _ _ e => nomatch (show (none : A) = some O from e)
structure PostS (T : Tab) (O : Out) (ρ : List Addr) (F : Fz) (H : Hp) (n : KN) (ks : KS) (D : Ends) (W : WX) : Prop where
  nx : PostN T O ρ F H n D.nx
  rt : PostK T O ρ F H ks.rt D.rt
  bk : PostN T O ρ F H ks.bk D.bk
  ct : PostN T O ρ F H ks.ct D.ct
  xc : ∀ s σ ρ1 F1 H1, Le ρ F H ρ1 F1 H1 → RSl T ρ1 F1 H1 s σ → PostX T O ρ1 F1 H1 (ks.xc s) (WE W σ)
theorem PostS.le {n : KN} {ks : KS} {D : Ends} (p : PostS T O ρ F H n ks D W) (a : Le ρ F H ρ1 F1 H1) : PostS T O ρ1 F1 H1 n ks D W :=
  ⟨p.nx.le a, p.rt.le a, p.bk.le a, p.ct.le a, fun s σ ρ2 F2 H2 l r => p.xc s σ ρ2 F2 H2 (a.trans l) r⟩
theorem PostS.px {n : KN} {ks : KS} {D : Ends} (p : PostS T O ρ F H n ks D W) (rs : RSl T ρ F H s σ) : PostX T O ρ F H (ks.xc s) (WE W σ) := p.xc s σ ρ F H .refl rs
/-- another next -/
theorem PostS.nxt {n n' : KN} {ks : KS} {D : Ends} {Q : L2.St → Hp → Prop} (p : PostS T O ρ F H n ks D W) (q : PostN T O ρ F H n' Q) : PostS T O ρ F H n' ks { D with nx := Q } W := ⟨q, p.rt, p.bk, p.ct, p.xc⟩
def RdS (T : Tab) (W : WX) (c : SCode) : TS := fun D σ H => ∃ (O : Out) (ρ : List Addr) (F : Fz) (s : SW.St) (h : CH) (n : KN) (ks : KS),
  Rep T ρ F H h ∧ RSl T ρ F H s σ ∧ c s h n ks = some O ∧ PostS T O ρ F H n ks D W
def SndS (T : Tab) (X : Cx) (W : WX) (st : Stmt) (c : SCode) : Prop := PS X st (RdS T W c)
def SndSs (T : Tab) (X : Cx) (W : WX) (st : List Stmt) (c : SCode) : Prop := PSs X st (RdS T W c)
theorem PS.imp {e : Stmt} {t t' : TS} (p : PS X e t) (i : ∀ D σ H, t' D σ H → t D σ H) : PS X e t' := ⟨fun pins s σ H Q I h => p.run pins s σ H Q I (i _ _ _ h)⟩
theorem PSs.imp {e : List Stmt} {t t' : TS} (p : PSs X e t) (i : ∀ D σ H, t' D σ H → t D σ H) : PSs X e t' := ⟨fun pins s σ H Q I h => p.run pins s σ H Q I (i _ _ _ h)⟩
/-- an expression of a statement, then what follows -/
theorem RdE.sq {c : Code} {k' : K} {Q' : VK} {n : KN} {ks : KS} {D : Ends} (rp : Rep T ρ F H h) (rs : RSl T ρ F H s σ) (p : PostS T O ρ F H n ks D W) (e : c s h k' (ks.xc s) = some O)
    (f : ∀ d h1 ρ1 F1 H1 v, k' d h1 = some O → Rep T ρ1 F1 H1 h1 → RV T ρ1 F1 H1 d v → RSl T ρ1 F1 H1 s σ → PostS T O ρ1 F1 H1 n ks D W → Q' v H1) : RdE T W c σ H Q' :=
  ⟨O, ρ, F, s, h, k', _, rp, rs, e, fun d h1 e1 ρ1 F1 H1 v l r rv => f d h1 ρ1 F1 H1 v e1 r rv (rs.le l) (p.le l), p.px rs⟩
noncomputable section
def sPass : SCode := fun s h n _ => n s h
def sNever : SCode := fun _ _ _ _ => none
def sBreak : SCode := fun s h _ ks => ks.bk s h
def sCont : SCode := fun s h _ ks => ks.ct s h
def sSeq (a b : SCode) : SCode := fun s h n ks => a s h (fun s h => b s h n ks) ks
def sExpr (c : Code) : SCode := fun s h n ks => c s h (fun _ h => n s h) (ks.xc s)
def sRet (c : Code) : SCode := fun s h _ ks => c s h ks.rt (ks.xc s)
def sRetN : SCode := fun _ h _ ks => ks.rt .non h
def sIf (c : TCode) (a b : SCode) : SCode := fun s h n ks => c s h (fun h => a s h n ks) (fun h => b s h n ks) (ks.xc s)
/-- targets -/
abbrev GCode := DV → SW.St → CH → KN → (SW.St → KX) → A
abbrev GsCode := List DV → SW.St → CH → KN → (SW.St → KX) → A
def gVar (i : Nat) : GCode := fun d s h n _ => putK s i (some d) fun s => n s h
def gNils : GsCode := fun l s h n _ => @List.rec DV (fun _ => A) (n s h) (fun _ _ _ => none) l
def gConss (g : GCode) (r : GsCode) : GsCode := fun l s h n x => @List.rec DV (fun _ => A) none (fun d l _ => g d s h (fun s h => r l s h n x) x) l
def gTups (g : GsCode) : GCode := fun d s h n x => dTup d fun l => g l s h n x
def sAsg (c : Code) (g : GCode) : SCode := fun s h n ks => c s h (fun d h => g d s h n ks.xc) (ks.xc s)
def sAsg2 (c : Code) (g g2 : GCode) : SCode := fun s h n ks => c s h (fun d h => g d s h (fun s h => g2 d s h n ks.xc) ks.xc) (ks.xc s)
/-- a, b = x, y by plain local names -/
def sPar (i j : Nat) (a : LCode) : SCode := fun s h n ks => a s h (fun l h => @List.rec DV (fun _ => A) none (fun d l _ => @List.rec DV (fun _ => A) none (fun e _ _ => putK s i (some d) fun s => putK s j (some e) fun s => n s h) l) l) (ks.xc s)
def sPar3 (i j m : Nat) (a : LCode) : SCode := fun s h n ks => a s h (fun l h => @List.rec DV (fun _ => A) none (fun d l _ => @List.rec DV (fun _ => A) none (fun e l _ => @List.rec DV (fun _ => A) none (fun f _ _ => putK s i (some d) fun s => putK s j (some e) fun s => putK s m (some f) fun s => n s h) l) l) l) (ks.xc s)
def sAug (i : Nat) (o : Op2) (c : Code) : SCode := fun s h n ks => nthK s i fun v => onSome v fun v => c s h (fun d h => o v d h fun z h => putK s i (some z) fun s => n s h) (ks.xc s)
end
theorem putK_some {α : Type} {l : List α} {n : Nat} {v : α} {k : List α → A} (e : putK l n v k = some O) : n < l.length ∧ k (l.set n v) = some O := by
  rw [putK_eq] at e
  by_cases z : n < l.length
  · rw [if_pos z] at e; exact ⟨z, e⟩
  · rw [if_neg z] at e; cases e
theorem RSl.set {i : Nat} {d : DV} {v : V} (rs : RSl T ρ F H s σ) (rv : RV T ρ F H d v) : RSl T ρ F H (s.set i (some d)) (σ.set i (some v)) := by
  refine ⟨by rw [List.length_set, List.length_set]; exact rs.1, fun j e hj => ?_⟩
  by_cases q : i = j
  · subst q
    have hl : i < s.length := by
      by_cases z : i < s.length
      · exact z
      · rw [List.getElem?_eq_none (by rw [List.length_set]; omega)] at hj; cases hj
    rw [List.getElem?_set_self hl] at hj
    have : d = e := by simpa using hj
    subst this
    exact ⟨v, by rw [List.getElem?_set_self (by rw [← rs.1]; exact hl)], rv⟩
  · rw [List.getElem?_set_ne q] at hj
    obtain ⟨u, hu, r⟩ := rs.2 j e hj
    exact ⟨u, by rw [List.getElem?_set_ne q]; exact hu, r⟩
theorem snds_pass {pos : Pos} : SndS T X W (.Pass pos) sPass := by
  refine PS.imp ps_pass fun D σ H hq => ?_
  obtain ⟨O, ρ, F, s, h, n, ks, rp, rs, e, p⟩ := hq
  exact p.nx s h e ρ F H σ .refl rp rs
theorem snds_doc {z j pos pos'} : SndS T X W (.Expr (.Constant (.str z) j pos) pos') sPass := by
  refine PS.imp ps_doc fun D σ H hq => ?_
  obtain ⟨O, ρ, F, s, h, n, ks, rp, rs, e, p⟩ := hq
  exact p.nx s h e ρ F H σ .refl rp rs
theorem snds_never {st : Stmt} : SndS T X W st sNever := PS.imp ps_never fun D σ H hq => by
  obtain ⟨O, ρ, F, s, h, n, ks, rp, rs, e, p⟩ := hq
  cases e
theorem sndss_never {st : List Stmt} : SndSs T X W st sNever := PSs.imp pss_never fun D σ H hq => by
  obtain ⟨O, ρ, F, s, h, n, ks, rp, rs, e, p⟩ := hq
  cases e
theorem snds_break {pos : Pos} : SndS T X W (.Break pos) sBreak := by
  refine PS.imp ps_break fun D σ H hq => ?_
  obtain ⟨O, ρ, F, s, h, n, ks, rp, rs, e, p⟩ := hq
  exact p.bk s h e ρ F H σ .refl rp rs
theorem snds_cont {pos : Pos} : SndS T X W (.Continue pos) sCont := by
  refine PS.imp ps_continue fun D σ H hq => ?_
  obtain ⟨O, ρ, F, s, h, n, ks, rp, rs, e, p⟩ := hq
  exact p.ct s h e ρ F H σ .refl rp rs
theorem sndss_nil : SndSs T X W [] sPass := by
  refine PSs.imp pss_nil fun D σ H hq => ?_
  obtain ⟨O, ρ, F, s, h, n, ks, rp, rs, e, p⟩ := hq
  exact p.nx s h e ρ F H σ .refl rp rs
theorem sndss_one {st : Stmt} {a : SCode} (h1 : SndS T X W st a) : SndSs T X W [st] a := pss_one h1
theorem sndss_cons {st : Stmt} {rest : List Stmt} {a b : SCode} (h1 : SndS T X W st a) (h2 : SndSs T X W rest b) : SndSs T X W (st :: rest) (sSeq a b) := by
  refine PSs.imp (pss_cons h1 h2) fun D σ H hq => ?_
  obtain ⟨O, ρ, F, s, h, n, ks, rp, rs, e, p⟩ := hq
  exact ⟨O, ρ, F, s, h, _, ks, rp, rs, e, p.nxt fun s1 h1 e1 ρ1 F1 H1 σ1 l1 r1 rs1 => ⟨O, ρ1, F1, s1, h1, n, ks, r1, rs1, e1, p.le l1⟩⟩
theorem snds_expr {e : Expr} {c : Code} {pos : Pos} (he : Snd T X W e c) (hs : swapsWith e none pos.line X.env = pure false) : SndS T X W (.Expr e pos) (sExpr c) := by
  refine PS.imp (ps_expr he hs) fun D σ H hq => ?_
  obtain ⟨O, ρ, F, s, h, n, ks, rp, rs, e, p⟩ := hq
  exact RdE.sq rp rs p e fun d h1 ρ1 F1 H1 v e1 r1 rv rs1 p1 => p1.nx s h1 e1 ρ1 F1 H1 σ .refl r1 rs1
theorem snds_ret {e : Expr} {c : Code} {pos : Pos} (he : Snd T X W e c) : SndS T X W (.Return (some e) pos) (sRet c) := by
  refine PS.imp (ps_ret he) fun D σ H hq => ?_
  obtain ⟨O, ρ, F, s, h, n, ks, rp, rs, e, p⟩ := hq
  exact RdE.sq rp rs p e fun d h1 ρ1 F1 H1 v e1 r1 rv rs1 p1 => p1.rt d h1 e1 ρ1 F1 H1 v .refl r1 rv
theorem snds_retN {pos : Pos} : SndS T X W (.Return none pos) sRetN := by
  refine PS.imp ps_retN fun D σ H hq => ?_
  obtain ⟨O, ρ, F, s, h, n, ks, rp, rs, e, p⟩ := hq
  exact p.rt .non h e ρ F H .non .refl rp (.imm .non)
theorem snds_if {c : Expr} {a b : List Stmt} {cc : TCode} {ca cb : SCode} {pos : Pos} (hc : SndT T X W c cc) (ha : SndSs T X W a ca) (hb : SndSs T X W b cb) : SndS T X W (.If c a b pos) (sIf cc ca cb) := by
  refine PS.imp (ps_if hc ha hb) fun D σ H hq => ?_
  obtain ⟨O, ρ, F, s, h, n, ks, rp, rs, e, p⟩ := hq
  refine ⟨O, ρ, F, s, h, _, _, _, rp, rs, e, fun b h1 e1 ρ1 F1 H1 l1 r1 => ?_, p.px rs⟩
  cases b with
  | true =>
    rw [if_pos rfl]
    exact ⟨O, ρ1, F1, s, h1, n, ks, r1, rs.le l1, e1, p.le l1⟩
  | false =>
    rw [if_neg Bool.false_ne_true]
    exact ⟨O, ρ1, F1, s, h1, n, ks, r1, rs.le l1, e1, p.le l1⟩
/-! ### targets -/
def PostXS (T : Tab) (O : Out) (ρ : List Addr) (F : Fz) (H : Hp) (x : SW.St → KX) (W : WX) : Prop := ∀ s σ ρ1 F1 H1, Le ρ F H ρ1 F1 H1 → RSl T ρ1 F1 H1 s σ → PostX T O ρ1 F1 H1 (x s) (WE W σ)
theorem PostXS.le {x : SW.St → KX} (p : PostXS T O ρ F H x W) (a : Le ρ F H ρ1 F1 H1) : PostXS T O ρ1 F1 H1 x W := fun s σ ρ2 F2 H2 l r => p s σ ρ2 F2 H2 (a.trans l) r
def RdG (T : Tab) (W : WX) (g : GCode) : TG := fun v σ H Q => ∃ (O : Out) (ρ : List Addr) (F : Fz) (d : DV) (s : SW.St) (h : CH) (n : KN) (x : SW.St → KX),
  Rep T ρ F H h ∧ RSl T ρ F H s σ ∧ RV T ρ F H d v ∧ g d s h n x = some O ∧ PostN T O ρ F H n Q ∧ PostXS T O ρ F H x W
def RdGs (T : Tab) (W : WX) (g : GsCode) : TGs := fun vs σ H Q => ∃ (O : Out) (ρ : List Addr) (F : Fz) (ds : List DV) (s : SW.St) (h : CH) (n : KN) (x : SW.St → KX),
  Rep T ρ F H h ∧ RSl T ρ F H s σ ∧ RVl T ρ F H ds vs ∧ g ds s h n x = some O ∧ PostN T O ρ F H n Q ∧ PostXS T O ρ F H x W
def SndG (T : Tab) (X : Cx) (W : WX) (e : Expr) (g : GCode) : Prop := PG X e (RdG T W g)
def SndGs (T : Tab) (X : Cx) (W : WX) (e : List Expr) (g : GsCode) : Prop := PGs X e (RdGs T W g)
theorem PG.imp {e : Expr} {t t' : TG} (p : PG X e t) (i : ∀ v σ H Q, t' v σ H Q → t v σ H Q) : PG X e t' := ⟨fun pins s σ H v u Q I r h => p.run pins s σ H v u Q I r (i _ _ _ _ h)⟩
theorem PGs.imp {e : List Expr} {t t' : TGs} (p : PGs X e t) (i : ∀ v σ H Q, t' v σ H Q → t v σ H Q) : PGs X e t' := ⟨fun pins s σ H v u Q I r h => p.run pins s σ H v u Q I r (i _ _ _ _ h)⟩
theorem sndg_var {i : Nat} {nm : Str} {pos : Pos} (hN : X.N.Nodup) (hi : X.N[i]? = some nm) (hx : Loc X.env.scope nm) (hf : X.fn nm = true ∨ X.env.scope.names.lookup nm = some .local) : SndG T X W (.Name nm pos) (gVar i) := by
  refine PG.imp (pg_name hN hi hx hf) fun v σ H Q hq => ?_
  obtain ⟨O, ρ, F, d, s, h, n, x, rp, rs, rv, e, pn, px⟩ := hq
  obtain ⟨_, e⟩ := putK_some e
  exact pn _ h e ρ F H _ .refl rp (rs.set rv)
theorem sndgs_nil : SndGs T X W [] gNils := by
  refine PGs.imp pgs_nil fun v σ H Q hq => ?_
  obtain ⟨O, ρ, F, d, s, h, n, x, rp, rs, rv, e, pn, px⟩ := hq
  cases rv with
  | nil => exact ⟨rfl, pn s h e ρ F H σ .refl rp rs⟩
  | cons _ _ => cases e
theorem sndgs_cons {e : Expr} {es : List Expr} {g : GCode} {r : GsCode} (h1 : SndG T X W e g) (h2 : SndGs T X W es r) (hs : (assignEach (e :: es) X.env).map (·.2) = assign e X.env :: (assignEach es X.env).map (·.2)) : SndGs T X W (e :: es) (gConss g r) := by
  refine PGs.imp (pgs_cons h1 h2 hs) fun v σ H Q hq => ?_
  obtain ⟨O, ρ, F, ds, s, h, n, x, rp, rs, rv, e, pn, px⟩ := hq
  cases rv with
  | nil => cases e
  | @cons d v l vs rd rt =>
    refine ⟨v, vs, rfl, O, ρ, F, d, s, h, _, x, rp, rs, rd, e, fun s1 h1 e1 ρ1 F1 H1 σ1 l1 r1 rs1 => ?_, px⟩
    exact ⟨O, ρ1, F1, l, s1, h1, n, x, r1, rs1, RVl.le l1 rt, e1, pn.le l1, px.le l1⟩
theorem RdGs.len {es : List Expr} {g : GsCode} : True := trivial
theorem sndg_tup {es : List Expr} {kk m : Nat} {pos : Pos} {g : GsCode} (hc : X.calm = true) (h : SndGs T X W es g) (hl : ∀ {O ds s h n x}, g ds s h n x = some O → ds.length = m)
    (hn : (assignEach es X.env).length = m) (hst : (assignEach es X.env).findIdx? (·.1) = none) : SndG T X W (.Tuple es kk pos) (gTups g) := by
  refine PG.imp (pg_tup hc h hn hst) fun v σ H Q hq => ?_
  obtain ⟨O, ρ, F, d, s, h, n, x, rp, rs, rv, e, pn, px⟩ := hq
  obtain ⟨l, ed, e⟩ := dTup_some e
  subst ed
  obtain ⟨a, vs, ex, f, e3, q, nn⟩ := rv.tup_inv
  exact ⟨a, vs, ex, .inl (.inl e3), by rw [← q.length]; exact hl e, O, ρ, F, l, s, h, n, x, rp, rs, q.rvl, e, pn, px⟩
theorem gl_nil {O : Out} {ds s h n x} (e : gNils ds s h n x = some O) : ds.length = 0 := by
  cases ds with
  | nil => rfl
  | cons _ _ => cases e
/-- the number of items that a row of targets wants -/
structure GLen (g : GsCode) (m : Nat) : Prop where
  len : ∀ {O ds s h n x}, g ds s h n x = some O → ds.length = m
theorem glen_nil : GLen gNils 0 := ⟨gl_nil⟩
/-- a target's code goes on only through its next -/
structure GThru (g : GCode) : Prop where
  thru : ∀ {O : Out} {d s h x} {n : KN}, g d s h n x = some O → ∃ O' s' h', n s' h' = some O'
theorem gthru_var (i : Nat) : GThru (gVar i) := ⟨fun {O d s h x n} e => ⟨O, _, _, (putK_some e).2⟩⟩
theorem glen_cons {g : GCode} {r : GsCode} {m : Nat} (t : GThru g) (l : GLen r m) : GLen (gConss g r) (m + 1) := ⟨fun {O ds s h n x} e => by
  cases ds with
  | nil => cases e
  | cons d ds =>
    obtain ⟨O', s', h', e'⟩ := t.thru (show g d s h _ x = some O from e)
    exact congrArg (· + 1) (l.len e')⟩
theorem gthrus_nil {O : Out} {ds s h x} {n : KN} (e : gNils ds s h n x = some O) : ∃ O' s' h', n s' h' = some O' := by
  cases ds with
  | nil => exact ⟨O, s, h, e⟩
  | cons _ _ => cases e
structure GsThru (g : GsCode) : Prop where
  thru : ∀ {O : Out} {d s h x} {n : KN}, g d s h n x = some O → ∃ O' s' h', n s' h' = some O'
theorem gsthru_nil : GsThru gNils := ⟨gthrus_nil⟩
theorem gsthru_cons {g : GCode} {r : GsCode} (t : GThru g) (u : GsThru r) : GsThru (gConss g r) := ⟨fun {O ds s h x n} e => by
  cases ds with
  | nil => cases e
  | cons d ds =>
    obtain ⟨O', s', h', e'⟩ := t.thru (show g d s h _ x = some O from e)
    exact u.thru e'⟩
theorem gthru_tup {g : GsCode} (t : GsThru g) : GThru (gTups g) := ⟨fun {O d s h x n} e => by
  obtain ⟨l, ed, e⟩ := dTup_some e
  exact t.thru e⟩
/-! ### assignments -/
theorem snds_asg {tg e : Expr} {c : Code} {g : GCode} {pos : Pos} (he : Snd T X W e c) (hg : SndG T X W tg g) (hs : swapsWithSole [tg] e pos.line X.env = pure false) (hw : swappedStores [tg] e X.env = pure none) (h1 : (assignEach [tg] X.env).map (·.2) = [assign tg X.env]) : SndS T X W (.Assign [tg] e pos) (sAsg c g) := by
  refine PS.imp (ps_asg he hg hs hw h1) fun D σ H hq => ?_
  obtain ⟨O, ρ, F, s, h, n, ks, rp, rs, e, p⟩ := hq
  exact RdE.sq rp rs p e fun d h1 ρ1 F1 H1 v e1 r1 rv rs1 p1 => ⟨O, ρ1, F1, d, s, h1, n, ks.xc, r1, rs1, rv, e1, p1.nx, p1.xc⟩
theorem snds_set {i : Nat} {nm : Str} {e : Expr} {c : Code} {pos pos' : Pos} (hN : X.N.Nodup) (hi : X.N[i]? = some nm) (hx : Loc X.env.scope nm) (he : Snd T X W e c) (hs : swapsWith e (some (.Name nm pos')) pos.line X.env = pure false) (hf : X.fn nm = true ∨ X.env.scope.names.lookup nm = some .local) :
    SndS T X W (.Assign [.Name nm pos'] e pos) (sAsg c (gVar i)) := by
  refine PS.imp (ps_set hN hi hx he hs hf) fun D σ H hq => ?_
  obtain ⟨O, ρ, F, s, h, n, ks, rp, rs, e, p⟩ := hq
  refine RdE.sq rp rs p e fun d h1 ρ1 F1 H1 v e1 r1 rv rs1 p1 => ?_
  obtain ⟨_, e2⟩ := putK_some e1
  exact p1.nx _ h1 e2 ρ1 F1 H1 _ .refl r1 (rs1.set rv)
theorem snds_asg2 {t1 t2 e : Expr} {c : Code} {g1 g2 : GCode} {pos : Pos} (he : Snd T X W e c) (h1 : SndG T X W t1 g1) (h2 : SndG T X W t2 g2) (ha : (assignEach [t1, t2] X.env).map (·.2) = [assign t1 X.env, assign t2 X.env]) (hw : swappedStores [t1, t2] e X.env = pure none) :
    SndS T X W (.Assign [t1, t2] e pos) (sAsg2 c g1 g2) := by
  refine PS.imp (ps_asg2 he h1 h2 ha hw) fun D σ H hq => ?_
  obtain ⟨O, ρ, F, s, h, n, ks, rp, rs, e, p⟩ := hq
  refine RdE.sq rp rs p e fun d h1 ρ1 F1 H1 v e1 r1 rv rs1 p1 => ⟨O, ρ1, F1, d, s, h1, _, ks.xc, r1, rs1, rv, e1, fun s2 h2 e2 ρ2 F2 H2 σ2 l2 r2 rs2 => ?_, p1.xc⟩
  have p2 := p1.le l2
  exact ⟨O, ρ2, F2, d, s2, h2, n, ks.xc, r2, rs2, rv.le l2, e2, p2.nx, p2.xc⟩
theorem snds_par {i j : Nat} {nx ny : Str} {a b : Expr} {ca : LCode} {px py pt pos : Pos} {kt k2 pt2} (hc : X.calm = true) (hN : X.N.Nodup) (hi : X.N[i]? = some nx) (hj : X.N[j]? = some ny) (hij : i ≠ j)
    (hx : X.env.scope.names.lookup nx = some .local) (hy : X.env.scope.names.lookup ny = some .local) (ha : SndA T X W [a, b] ca)
    (hw : swappedStores [.Tuple [.Name nx px, .Name ny py] kt pt] (.Tuple [a, b] k2 pt2) X.env = pure (some [nx, ny]))
    (hs : swapsWithSole [.Tuple [.Name nx px, .Name ny py] kt pt] (.Tuple [a, b] k2 pt2) pos.line X.env = pure false) :
    SndS T X W (.Assign [.Tuple [.Name nx px, .Name ny py] kt pt] (.Tuple [a, b] k2 pt2) pos) (sPar i j ca) := by
  refine PS.imp (ps_par hc hN hi hj hij hx hy ha hw hs) fun D σ H hq => ?_
  obtain ⟨O, ρ, F, s, h, n, ks, rp, rs, e, p⟩ := hq
  refine ⟨O, ρ, F, s, h, _, _, rp, rs, e, fun ds h1 hn e1 ρ1 F1 H1 vs l1 r1 rvs => ?_, p.px rs⟩
  cases rvs with
  | nil => cases e1
  | cons ra rt => cases rt with
    | nil => cases e1
    | cons rb rt => cases rt with
      | cons _ _ => exact absurd hn (by simp)
      | nil =>
        obtain ⟨_, e2⟩ := putK_some (show putK s i _ _ = some O from e1)
        obtain ⟨_, e3⟩ := putK_some e2
        exact ⟨_, _, rfl, (p.le l1).nx _ h1 e3 ρ1 F1 H1 _ .refl r1 (((rs.le l1).set ra).set rb)⟩
theorem snds_par3 {i j l : Nat} {nx ny nz : Str} {a b c : Expr} {ca : LCode} {px py pz pt pos : Pos} {kt k2 pt2} (hc : X.calm = true) (hN : X.N.Nodup) (hi : X.N[i]? = some nx) (hj : X.N[j]? = some ny) (hl : X.N[l]? = some nz) (hij : i ≠ j) (hil : i ≠ l) (hjl : j ≠ l)
    (hx : X.env.scope.names.lookup nx = some .local) (hy : X.env.scope.names.lookup ny = some .local) (hz : X.env.scope.names.lookup nz = some .local) (ha : SndA T X W [a, b, c] ca)
    (hw : swappedStores [.Tuple [.Name nx px, .Name ny py, .Name nz pz] kt pt] (.Tuple [a, b, c] k2 pt2) X.env = pure (some [nx, ny, nz]))
    (hs : swapsWithSole [.Tuple [.Name nx px, .Name ny py, .Name nz pz] kt pt] (.Tuple [a, b, c] k2 pt2) pos.line X.env = pure false) :
    SndS T X W (.Assign [.Tuple [.Name nx px, .Name ny py, .Name nz pz] kt pt] (.Tuple [a, b, c] k2 pt2) pos) (sPar3 i j l ca) := by
  refine PS.imp (ps_par3 hc hN hi hj hl hij hil hjl hx hy hz ha hw hs) fun D σ H hq => ?_
  obtain ⟨O, ρ, F, s, h, n, ks, rp, rs, e, p⟩ := hq
  refine ⟨O, ρ, F, s, h, _, _, rp, rs, e, fun ds h1 hn e1 ρ1 F1 H1 vs l1 r1 rvs => ?_, p.px rs⟩
  cases rvs with
  | nil => cases e1
  | cons ra rt => cases rt with
    | nil => cases e1
    | cons rb rt => cases rt with
      | nil => cases e1
      | cons rc rt => cases rt with
        | cons _ _ => exact absurd hn (by simp)
        | nil =>
          obtain ⟨_, e2⟩ := putK_some (show putK s i _ _ = some O from e1)
          obtain ⟨_, e3⟩ := putK_some e2
          obtain ⟨_, e4⟩ := putK_some e3
          exact ⟨_, _, _, rfl, (p.le l1).nx _ h1 e4 ρ1 F1 H1 _ .refl r1 ((((rs.le l1).set ra).set rb).set rc)⟩
theorem snds_aug {i : Nat} {nm : Str} {e : Expr} {c : Code} {op : Operator} {o : Op2} {pos pos' : Pos} (hN : X.N.Nodup) (hi : X.N[i]? = some nm) (hx : Loc X.env.scope nm) (he : Snd T X W e c) (ho : OpR X (inplaceOp op) (RdO T o)) (hf : X.fn nm = true ∨ X.env.scope.names.lookup nm = some .local) :
    SndS T X W (.AugAssign (.Name nm pos') op e pos) (sAug i o c) := by
  refine PS.imp (ps_aug (ti := RdO T o) hN hi hx he ho hf) fun D σ H hq => ?_
  obtain ⟨O, ρ, F, s, h, n, ks, rp, rs, e, p⟩ := hq
  obtain ⟨oo, e1, e⟩ := nthK_some e
  obtain ⟨d, e2, e⟩ := onSome_some e
  subst e2
  obtain ⟨v, ev, rv⟩ := rs.2 i d e1
  refine ⟨v, ev, O, ρ, F, s, h, _, _, rp, rs, e, fun d2 h1 e1 ρ1 F1 H1 v2 l1 r1 rv2 => ?_, p.px rs⟩
  refine ⟨O, ρ1, F1, d, d2, h1, _, r1, rv.le l1, rv2, e1, fun d3 h2 e2 ρ2 F2 H2 v3 l2 r2 rv3 => ?_⟩
  obtain ⟨_, e3⟩ := putK_some e2
  exact (p.le (l1.trans l2)).nx _ h2 e3 ρ2 F2 H2 _ .refl r2 ((rs.le (l1.trans l2)).set rv3)
end SW
end
section
/-! while, for. -/
namespace SW
open PySem PySem.Spec PyProof.Rows L2 SlX
variable {T : Tab} {O : Out} {ρ ρ1 ρ' : List Addr} {F F1 F' : Fz} {H H1 H' : Hp} {h h1 : CH} {s : SW.St} {σ : L2.St} {k : K} {x : KX} {Q : VK} {W : WX} {X : Cx}
/-- the turns of all loops -/
abbrev fuel : Nat := 1000000
noncomputable section
def whS (c : TCode) (b : SCode) (ih : SW.St → CH → KN → KS → A) (s : SW.St) (h : CH) (n : KN) (ks : KS) : A :=
  c s h (fun h => b s h (fun s h => ih s h n ks) { rt := ks.rt, bk := n, ct := fun s h => ih s h n ks, xc := ks.xc }) (fun h => n s h) (ks.xc s)
def whL (c : TCode) (b : SCode) (f : Nat) : SW.St → CH → KN → KS → A := @Nat.rec (fun _ => SW.St → CH → KN → KS → A) (fun _ _ _ _ => none) (fun _ ih => whS c b ih) f
def sWhile (c : TCode) (b : SCode) : SCode := fun s h n ks => whL c b 1000000 s h n ks
end
theorem snds_while {c : Expr} {body : List Stmt} {cc : TCode} {cb : SCode} {pos : Pos} (hp : PassesOwn (model X.prog X.w) X.A X.env X.xe) (hc : SndT T X W c cc) (hb : SndSs T X W body cb) : SndS T X W (.While c body [] pos) (sWhile cc cb) := by
  refine PS.imp (ps_while hp hc hb) fun D σ H hq => ?_
  obtain ⟨O, ρ, F, s, h, n, ks, rp, rs, e, p⟩ := hq
  refine ⟨fun m σ H => ∃ (ρ : List Addr) (F : Fz) (s : SW.St) (h : CH), Rep T ρ F H h ∧ RSl T ρ F H s σ ∧ whL cc cb m s h n ks = some O ∧ PostS T O ρ F H n ks D W, ⟨1000000, ρ, F, s, h, rp, rs, e, p⟩, fun m σ H hw => ?_⟩
  obtain ⟨ρ, F, s, h, rp, rs, e, p⟩ := hw
  cases m with
  | zero => cases e
  | succ m =>
    refine ⟨O, ρ, F, s, h, _, _, _, rp, rs, (show whS cc cb (whL cc cb m) s h n ks = some O from e), fun b h1 e1 ρ1 F1 H1 l1 r1 => ?_, p.px rs⟩
    cases b with
    | true =>
      rw [if_pos rfl]
      have hn : PostN T O ρ1 F1 H1 (fun s h => whL cc cb m s h n ks) (fun σ H => ∃ (ρ : List Addr) (F : Fz) (s : SW.St) (h : CH), Rep T ρ F H h ∧ RSl T ρ F H s σ ∧ whL cc cb m s h n ks = some O ∧ PostS T O ρ F H n ks D W) :=
        fun s2 h2 e2 ρ2 F2 H2 σ2 l2 r2 rs2 => ⟨ρ2, F2, s2, h2, r2, rs2, e2, p.le (l1.trans l2)⟩
      refine ⟨_, fun σ' H' w => ⟨m, Nat.lt_succ_self m, w⟩, O, ρ1, F1, s, h1, _, _, r1, rs.le l1, e1, ⟨hn, (p.le l1).rt, (p.le l1).nx, hn, (p.le l1).xc⟩⟩
    | false =>
      rw [if_neg Bool.false_ne_true]
      exact (p.le l1).nx s h1 e1 ρ1 F1 H1 σ .refl r1 (rs.le l1)
/-! ### what a loop walks -/
/-- what is still to come: fixed items; the items of a cell at each turn; pairs -/
inductive Src where
  | fix (l : List DV) | cell (i : Nat) | enu (s : Src) | zip (s t : Src) | zip3 (s t u : Src)
noncomputable section
/-- the item at a place; st just behind the last -/
def nthO (l : List DV) (j : Nat) (st : A) (go : DV → A) : A := @List.rec DV (fun _ => Nat → A) (fun j => @Nat.rec (fun _ => A) st (fun _ _ => none) j) (fun d _ ih j => @Nat.rec (fun _ => A) (go d) (fun m _ => ih m) j) l j
def nxt (c : Src) : Nat → CH → A → (DV → Src → A) → A := @Src.rec (fun _ => Nat → CH → A → (DV → Src → A) → A)
  (fun l _ _ st go => @List.rec DV (fun _ => A) st (fun d r _ => go d (.fix r)) l)
  (fun i j h st go => nthK h i fun mo => mLst mo fun _ l => nthO l j st fun d => go d (.cell i))
  (fun _ ih j h st go => ih j h st fun d s => bsel (nr d) (go (.tup [.int (.ofNat j), d]) (.enu s)) none)
  (fun _ _ ih ih2 j h st go => ih j h (ih2 j h st fun _ _ => st) fun d s => ih2 j h st fun e t => bsel (nr d) (bsel (nr e) (go (.tup [d, e]) (.zip s t)) none) none)
  (fun _ _ _ ih ih2 ih3 j h st go => ih j h (ih2 j h (ih3 j h st fun _ _ => st) fun _ _ => ih3 j h st fun _ _ => st) fun d s => ih2 j h (ih3 j h st fun _ _ => st) fun e t => ih3 j h st fun f u => bsel (nr d) (bsel (nr e) (bsel (nr f) (go (.tup [d, e, f]) (.zip3 s t u)) none) none) none) c
abbrev ICode := SW.St → CH → (Src → CH → A) → KX → A
def foS (g : GCode) (b : SCode) (ih : Nat → Src → SW.St → CH → KN → KS → A) (j : Nat) (c : Src) (s : SW.St) (h : CH) (n : KN) (ks : KS) : A :=
  nxt c j h (n s h) fun d c => forceN (Nat.succ j) fun j => g d s h (fun s h => b s h (fun s h => ih j c s h n ks) { rt := ks.rt, bk := n, ct := fun s h => ih j c s h n ks, xc := ks.xc }) ks.xc
def foL (g : GCode) (b : SCode) (f : Nat) : Nat → Src → SW.St → CH → KN → KS → A := @Nat.rec (fun _ => Nat → Src → SW.St → CH → KN → KS → A) (fun _ _ _ _ _ _ => none) (fun _ ih => foS g b ih) f
def sFor (i : ICode) (g : GCode) (b : SCode) : SCode := fun s h n ks => i s h (fun c h => foL g b 1000000 0 c s h n ks) (ks.xc s)
end
/-- an iterator J that gives what a source tells -/
def SrcAt (T : Tab) (J : It) (ρ0 : List Addr) (F0 : Fz) (H0 : Hp) (R : Nat → Src → Prop) : Prop := ∀ (i : Nat) (c : Src) (ρ : List Addr) (F : Fz) (H : Hp) (h : CH) (O : Out) (st : A) (go : DV → Src → A),
  R i c → Le ρ0 F0 H0 ρ F H → Rep T ρ F H h → nxt c i h st go = some O →
    (st = some O ∧ J.stop i H) ∨ (J.go i H ∧ ∃ d c', go d c' = some O ∧ R (i + 1) c' ∧ ∀ v H', J.yld i H v H' → ∃ F', Le ρ F H ρ F' H' ∧ Rep T ρ F' H' h ∧ RV T ρ F' H' d v)
structure SrcOk (T : Tab) (J : It) (ρ : List Addr) (F : Fz) (H : Hp) (c : Src) : Prop where
  has : ∃ R : Nat → Src → Prop, R 0 c ∧ SrcAt T J ρ F H R
def RdI (T : Tab) (W : WX) (c : ICode) : TI := fun σ H R => ∃ (O : Out) (ρ : List Addr) (F : Fz) (s : SW.St) (h : CH) (k : Src → CH → A) (x : KX),
  Rep T ρ F H h ∧ RSl T ρ F H s σ ∧ c s h k x = some O ∧ (∀ src h', k src h' = some O → ∀ ρ' F' H' J, Le ρ F H ρ' F' H' → Rep T ρ' F' H' h' → SrcOk T J ρ' F' H' src → R J H') ∧ PostX T O ρ F H x (WE W σ)
def SndI (T : Tab) (X : Cx) (W : WX) (tg e : Expr) (c : ICode) : Prop := PI X tg e (RdI T W c)
theorem PI.imp {tg e : Expr} {t t' : TI} (p : PI X tg e t) (i : ∀ σ H Q, t' σ H Q → t σ H Q) : PI X tg e t' := ⟨fun pins s σ H Q I h => p.run pins s σ H Q I (i _ _ _ h)⟩
theorem snds_for {tg iter : Expr} {body : List Stmt} {ci : ICode} {g : GCode} {cb : SCode} {pos : Pos} (hp : PassesOwn (model X.prog X.w) X.A X.env X.xe) (hc : X.calm = true) (hi : SndI T X W tg iter ci) (hg : SndG T X W tg g) (hb : SndSs T X W body cb)
    (hfs : ∀ x, foldedSetIterable iter X.env x = pure x) : SndS T X W (.For tg iter body [] pos) (sFor ci g cb) := by
  refine PS.imp (ps_for hp hc hi hg hb hfs) fun D σ H hq => ?_
  obtain ⟨O, ρ, F, s, h, n, ks, rp, rs, e, p⟩ := hq
  refine ⟨O, ρ, F, s, h, _, _, rp, rs, e, fun src h1 e1 ρ1 F1 H1 J l1 r1 sr => ?_, p.px rs⟩
  obtain ⟨R, R0, at'⟩ := sr.has
  refine ⟨fun i m σ H => ∃ (ρ : List Addr) (F : Fz) (s : SW.St) (h : CH) (c : Src), R i c ∧ Le ρ1 F1 H1 ρ F H ∧ Rep T ρ F H h ∧ RSl T ρ F H s σ ∧ foL g cb m i c s h n ks = some O ∧ PostS T O ρ F H n ks D W,
    ⟨1000000, ρ1, F1, s, h1, src, R0, .refl, r1, rs.le l1, e1, p.le l1⟩, fun i m σ H hw => ?_⟩
  obtain ⟨ρ, F, s, h, c, Rc, l, rp, rs, e, p⟩ := hw
  cases m with
  | zero => cases e
  | succ m =>
    have e : foS g cb (foL g cb m) i c s h n ks = some O := e
    unfold foS at e
    rcases at' i c ρ F H h O _ _ Rc l rp e with ⟨e2, st⟩ | ⟨gg, d, c', e2, Rc', yl⟩
    · exact .inl ⟨st, p.nx s h e2 ρ F H σ .refl rp rs⟩
    · rw [forceN_eq] at e2
      refine .inr ⟨gg, _, fun σ' H' w => ⟨m, Nat.lt_succ_self m, w⟩, fun v H' y => ?_⟩
      obtain ⟨F', l', rp', rv⟩ := yl v H' y
      refine ⟨O, ρ, F', d, s, h, _, ks.xc, rp', rs.le l', rv, e2, fun s2 h2 e3 ρ2 F2 H2 σ2 l2 r2 rs2 => ?_, fun s σ ρ1 F1 H1 l r => (p.le l').xc s σ ρ1 F1 H1 l r⟩
      have p2 := (p.le l').le l2
      refine ⟨O, ρ2, F2, s2, h2, _, _, r2, rs2, e3, ?_⟩
      have hn : PostN T O ρ2 F2 H2 (fun s h => foL g cb m (i + 1) c' s h n ks) (fun σ H => ∃ (ρ : List Addr) (F : Fz) (s : SW.St) (h : CH) (c : Src), R (i + 1) c ∧ Le ρ1 F1 H1 ρ F H ∧ Rep T ρ F H h ∧ RSl T ρ F H s σ ∧ foL g cb m (i + 1) c s h n ks = some O ∧ PostS T O ρ F H n ks D W) :=
        fun s3 h3 e4 ρ3 F3 H3 σ3 l3 r3 rs3 => ⟨ρ3, F3, s3, h3, c', Rc', ((l.trans l').trans l2).trans l3, r3, rs3, e4, p2.le l3⟩
      exact ⟨hn, p2.rt, p2.nx, hn, p2.xc⟩
/-! ### lists, tuples, texts, ranges -/
noncomputable section
/-- the signs of a text -/
def chars (s : List Nat) : List DV := @List.rec Nat (fun _ => List DV) [] (fun c _ ih => .str [c] :: ih) s
/-- what stands in an own value -/
def srcOf (d : DV) (h : CH) (k : Src → CH → A) : A := @DV.rec (fun _ => A) (fun _ => Unit) none (fun _ => none) (fun _ => none) (fun s => k (.fix (chars s)) h) (fun l _ => k (.fix l) h) (fun l _ => k (.fix l) h) (fun _ _ _ => none) (fun _ _ => none) (fun i => nthK h i fun mo => mLst mo fun _ _ => k (.cell i) h) () (fun _ _ _ _ => ()) d
def iVal (c : Code) : ICode := fun s h k x => c s h (fun d h => srcOf d h k) x
def rngL (lo : Int) (n : Nat) : List DV := @Nat.rec (fun _ => Int → List DV) (fun _ => []) (fun _ ih lo => .int lo :: ih (iAdd lo (.ofNat 1))) n lo
end
theorem Le.same_F (a : ∀ x o, F x → H x = some o → H' x = some o) : True := trivial
theorem srcAt_fix {J : It} {L : List DV} (f : ∀ (i : Nat) (d : DV), L[i]? = some d → ∀ ρ1 F1 H1 h, Le ρ F H ρ1 F1 H1 → Rep T ρ1 F1 H1 h → J.go i H1 ∧ ∀ v H', J.yld i H1 v H' → ∃ F', Le ρ1 F1 H1 ρ1 F' H' ∧ Rep T ρ1 F' H' h ∧ RV T ρ1 F' H' d v)
    (g : ∀ ρ1 F1 H1 h, Le ρ F H ρ1 F1 H1 → Rep T ρ1 F1 H1 h → J.stop L.length H1) : SrcOk T J ρ F H (.fix L) := by
  refine ⟨fun i c => i ≤ L.length ∧ c = .fix (L.drop i), ⟨Nat.zero_le _, rfl⟩, ?_⟩
  rintro i c ρ1 F1 H1 h O st go ⟨hi, rfl⟩ l rp e
  by_cases z : i < L.length
  · have e' : nxt (.fix (L[i] :: L.drop (i + 1))) i h st go = some O := by rw [← List.drop_eq_getElem_cons z]; exact e
    obtain ⟨g1, g2⟩ := f i L[i] (List.getElem?_eq_getElem z) ρ1 F1 H1 h l rp
    exact .inr ⟨g1, L[i], _, e', ⟨z, rfl⟩, g2⟩
  · have zi : i = L.length := by omega
    subst zi
    rw [List.drop_length] at e
    exact .inl ⟨e, g ρ1 F1 H1 h l rp⟩
theorem SqL.inj {K : PySem.W.Frag} {a : Addr} {xs ys : List V} (e : H a = some (.lst xs)) (q : SqL K H a ys) (nk : ∀ o, K.lookup a = some o → False) : ys = xs := by
  rcases q with (q | ⟨o, q⟩) | ⟨o, its, n, q, _⟩
  · rw [e] at q; cases q; rfl
  · rw [e] at q; cases q
  · exact absurd q (fun z => nk o z)
end SW
end
section
/-! What is walked: lists, tuples, texts, ranges; enumerate and zip of them. -/
namespace SW
open PySem PySem.Spec PyProof.Rows L2 SlX
variable {T : Tab} {O : Out} {ρ ρ1 ρ' : List Addr} {F F1 F' : Fz} {H H1 H' : Hp} {h h1 : CH} {s : SW.St} {σ : L2.St} {k : K} {x : KX} {Q : VK} {W : WX} {X : Cx}
theorem nthO_some {l : List DV} {j : Nat} {st : A} {go : DV → A} (e : nthO l j st go = some O) : (st = some O ∧ l.length = j) ∨ ∃ d, l[j]? = some d ∧ go d = some O := by
  induction l generalizing j with
  | nil => cases j with
    | zero => exact .inl ⟨e, rfl⟩
    | succ j => cases e
  | cons a l ih => cases j with
    | zero => exact .inr ⟨a, rfl, e⟩
    | succ j =>
      rcases ih (show nthO l j st go = some O from e) with ⟨h1, h2⟩ | ⟨d, h1, h2⟩
      · exact .inl ⟨h1, by rw [List.length_cons, h2]⟩
      · exact .inr ⟨d, by simpa using h1, h2⟩
/-! ### the simple ones -/
inductive Inn where
  | lst (l : Addr) | tup (a : Addr) | str (z : Str)
def signs (z : Str) : List V := z.cps.toList.map fun c => .str ⟨#[c]⟩
def Inn.has (n : Inn) (H : Hp) (xs : List V) : Prop := match n with
  | .lst l => H l = some (.lst xs)
  | .tup a => H a = some (.tup xs)
  | .str z => xs = signs z
def Inn.own (n : Inn) (it : Addr) (i : Nat) (h : Heap) : Prop := match n with
  | .lst l => h.IsListIter it l i
  | .tup a => h.IsTupleIter it a i
  | .str z => ∃ t, h.IsStrIter it (strIterType z) z t i
def Inn.val : Inn → V
  | .lst l => .ref l
  | .tup a => .ref a
  | .str z => .str z
theorem Inn.inj {n : Inn} {xs ys : List V} (a : n.has H xs) (b : n.has H ys) : xs = ys := by
  cases n with
  | lst l => have a : H l = _ := a; have b : H l = _ := b; rw [a] at b; cases b; rfl
  | tup l => have a : H l = _ := a; have b : H l = _ := b; rw [a] at b; cases b; rfl
  | str z => have a : xs = _ := a; have b : ys = _ := b; rw [a, b]
theorem Inn.own_at {n : Inn} {it : Addr} {i : Nat} {h h' : Heap} (o : n.own it i h) (k : ∀ o, h.get? it = some o → h'.get? it = some o) : n.own it i h' := by
  cases n with
  | lst l => exact Heap.IsListIter.at (show h.IsListIter it l i from o) k
  | tup l => exact Heap.IsTupleIter.at (show h.IsTupleIter it l i from o) k
  | str z => obtain ⟨t, q, ho, r⟩ := o; exact ⟨t, q, k q ho, r⟩
theorem Inn.own_obj {n : Inn} {it : Addr} {i : Nat} {h : Heap} (o : n.own it i h) : ∃ o, h.get? it = some o ∧ ∀ v, o.data ≠ .cell v := by
  cases n with
  | lst l => obtain ⟨o, e, _, d⟩ := (show h.IsListIter it l i from o); exact ⟨o, e, fun v z => by rw [d] at z; cases z⟩
  | tup l => obtain ⟨o, e, _, d⟩ := (show h.IsTupleIter it l i from o); exact ⟨o, e, fun v z => by rw [d] at z; cases z⟩
  | str l => obtain ⟨t, o, e, _, d⟩ := o; exact ⟨o, e, fun v z => by rw [d] at z; cases z⟩
/-- what an iterator of one draws -/
structure DrawsIn (X : Cx) (H : Hp) (n : Inn) (it i : Nat) (xs : List V) (h : Heap) (fp : List Addr) (P : Nat → Value → Prop) (S : Nat → Heap → Prop) : Prop where
  dr : Draws X.prog X.w X.A.in1 it (it :: fp) xs.length P S
  st : S i h
  tr : ∀ b ∈ fp, H b ≠ none
  yl : ∀ j v, P j v → ∃ x, xs[j]? = some x ∧ RelV x v
  ow : ∀ j h', S j h' → n.own it j h'
theorem Inn.draws {n : Inn} {pins : List (Addr × Obj)} {σ : L2.St} {s : Shared} {it i : Nat} {xs : List V} (I : Inv X pins σ H s) (hc : X.calm = true) (f : H it = none) (hx : n.has H xs) (ow : n.own it i s.heap) : ∃ fp P S, DrawsIn X H n it i xs s.heap fp P S := by
  have hh : X.A.in1.handled = none := I.ok.hd hc
  cases n with
  | lst l =>
    have hx : H l = some (.lst xs) := hx
    obtain ⟨its, rv, p, hz⟩ := I.list (.inl (.inl hx))
    have ne : l ≠ it := fun z => by rw [z, f] at hx; cases hx
    have el : its.toArray.size = xs.length := by rw [List.size_toArray]; exact rv.length.symm
    refine ⟨[l], fun i v => its.toArray[i]? = some v, fun i h => h.IsListIter it l i ∧ h.IsList l its.toArray, by rw [← el]; exact Draws.list hh it l ne its.toArray, ⟨ow, p.isList⟩, fun b hb => ?_, fun j v hv => ?_, fun j h' z => z.1⟩
    · rw [List.mem_singleton.mp hb, hx]; simp
    · have hv' : its[j]? = some v := by simpa using hv
      have hj : j < xs.length := by rw [rv.length]; exact (List.getElem?_eq_some_iff.mp hv').1
      obtain ⟨u, hu, ru⟩ := rv.get (List.getElem?_eq_getElem hj)
      rw [hv'] at hu
      cases hu
      exact ⟨_, List.getElem?_eq_getElem hj, ru⟩
  | tup l =>
    have hx : H l = some (.tup xs) := hx
    obtain ⟨its, rv, p, hz⟩ := I.tuple (.inl (.inl hx))
    have ne : l ≠ it := fun z => by rw [z, f] at hx; cases hx
    have el : its.toArray.size = xs.length := by rw [List.size_toArray]; exact rv.length.symm
    refine ⟨[l], fun i v => its.toArray[i]? = some v, fun i h => h.IsTupleIter it l i ∧ h.IsTuple l its.toArray, by rw [← el]; exact Draws.tuple hh it l ne its.toArray, ⟨ow, p⟩, fun b hb => ?_, fun j v hv => ?_, fun j h' z => z.1⟩
    · rw [List.mem_singleton.mp hb, hx]; simp
    · have hv' : its[j]? = some v := by simpa using hv
      have hj : j < xs.length := by rw [rv.length]; exact (List.getElem?_eq_some_iff.mp hv').1
      obtain ⟨u, hu, ru⟩ := rv.get (List.getElem?_eq_getElem hj)
      rw [hv'] at hu
      cases hu
      exact ⟨_, List.getElem?_eq_getElem hj, ru⟩
  | str z =>
    have hx : xs = signs z := hx
    subst hx
    obtain ⟨t, ow⟩ := ow
    have el : z.cps.size = (signs z).length := by unfold signs; simp
    refine ⟨[], fun i v => ∃ c u, z.cps[i]? = some c ∧ v = .str ⟨#[c]⟩ u, fun i h => h.IsStrIter it (strIterType z) z t i, by rw [← el]; exact Draws.text hh it z t, ow, fun b hb => (nomatch hb), fun j v hv => ?_, fun j h' z => ⟨t, z⟩⟩
    obtain ⟨c, u, e1, e2⟩ := hv
    exact ⟨.str ⟨#[c]⟩, by unfold signs; simp [e1], ⟨u, e2⟩⟩
theorem Inn.begins {n : Inn} {pins : List (Addr × Obj)} {σ : L2.St} {s : Shared} {xs : List V} {v : Value} (I : Inv X pins σ H s) (hx : n.has H xs) (hv : RelV n.val v) : ∃ o G, Begins v o G ∧ G s.heap ∧ ∀ h' it, h'.get? it = some o → n.own it 0 h' := by
  cases n with
  | lst l =>
    have hx : H l = some (.lst xs) := hx
    obtain ⟨its, rv, p, hz⟩ := I.list (.inl (.inl hx))
    cases hv
    exact ⟨_, _, begins_list l its.toArray, p.isList, fun h' it e => ⟨_, e, rfl, rfl⟩⟩
  | tup l =>
    have hx : H l = some (.tup xs) := hx
    obtain ⟨its, rv, p, hz⟩ := I.tuple (.inl (.inl hx))
    cases hv
    exact ⟨_, _, begins_tuple l its.toArray, p, fun h' it e => ⟨_, e, rfl, rfl⟩⟩
  | str z =>
    obtain ⟨t, rfl⟩ := hv
    exact ⟨_, _, begins_text z t, trivial, fun h' it e => ⟨t, _, e, rfl, rfl⟩⟩
/-! ### enumerate -/
def ItE (n : Inn) : It := ⟨fun i H => ∃ xs x, n.has H xs ∧ xs[i]? = some x, fun i H v H' => ∃ T x, v = .ref T ∧ H T = none ∧ H' = upd H T (.tup [.int (i : Nat), x]) ∧ ∀ xs, n.has H xs → xs[i]? = some x, fun i H => ∃ xs, n.has H xs ∧ xs.length = i⟩
theorem turn_enu {P : Program} {w : World} {K : PySem.W.Frag} {elts : List Expr} {kk : Nat} {tpos : Pos} (n : Inn) (e it : Addr) :
    Turn P w K (.Tuple elts kk tpos) (ItE n) [e, it] e (fun i h => (∃ old, IsEnum h e it ((0 : Int) + (i : Int)) old) ∧ n.own it i h ∧ e ≠ it) where
  mem := by simp
  obj := fun i h st b hb => by
    obtain ⟨⟨old, he⟩, ho, _⟩ := st
    have e' : b = e ∨ b = it := by simpa using hb
    rcases e' with z | z
    · rw [z]; exact ⟨_, he, fun v q => nomatch q⟩
    · rw [z]; exact Inn.own_obj ho
  keep := fun i h h' st k => let ⟨⟨old, he⟩, hi, hne⟩ := st; ⟨⟨old, k e (by simp) _ he⟩, Inn.own_at hi fun o q => k it (by simp) o q, hne⟩
  item := by
    intro X hP hw hK hc i pins s σ H E I hf st hg
    subst hP hw hK
    obtain ⟨hE, ho, hne⟩ := st
    obtain ⟨xs, x, hx, hxi⟩ := hg
    obtain ⟨fp, P, S, d⟩ := Inn.draws I hc (hf it (by simp)).1 hx ho
    have hef : e ∉ it :: fp := fun hm => by
      rcases List.mem_cons.mp hm with z | z
      · exact hne z
      · exact d.tr e z (hf e (by simp)).1
    have hi : i < xs.length := (List.getElem?_eq_some_iff.mp hxi).1
    refine (GoesN.enumFrom (0 : Int) d.dr e hne hef (by simp)).goes i s (fun u s2 => ∃ x H', Inv X pins σ H' s2 ∧ RelV x u ∧ (ItE n).yld i H x H' ∧ ((∃ old, IsEnum s2.heap e it ((0 : Int) + ((i + 1 : Nat) : Int)) old) ∧ n.own it (i + 1) s2.heap ∧ e ≠ it) ∧ ∀ b ∈ [e, it], H' b = none) E hi ⟨hE, d.st⟩ fun v h' tk hY st' hk htk => ?_
    obtain ⟨Tp, t, u, ev, hT, hP, hTup⟩ := hY
    subst ev
    obtain ⟨x2, hx2, ru⟩ := d.yl i u hP
    have new : ObjOk X.prog X.w (upd H Tp (.tup [.int (i : Nat), x2])) h' Tp (.tup [.int (i : Nat), x2]) :=
      ⟨by show 2 ≤ sizeLine; decide, [.int ((0 : Int) + (i : Int)) t, u], .cons ⟨t, by rw [Int.zero_add]⟩ (.cons ru .nil), hTup⟩
    have I1 : Inv X pins σ (upd H Tp (.tup [.int (i : Nat), x2])) { s with heap := h', toks := tk } := I.turnedNew (ch := [e, it]) (fun b ob hb q => hk b ob hb q) hf hT new
    refine ⟨.ref Tp, _, I1, rfl, ⟨Tp, x2, rfl, I.hok.fresh hT, rfl, fun ys hy => by rw [Inn.inj hy hx]; exact hx2⟩, ⟨st'.1, d.ow _ _ st'.2, hne⟩, fun b hb => ?_⟩
    have : b < s.heap.objs.size := by
      have e' : b = e ∨ b = it := by simpa using hb
      rcases e' with z | z
      · rw [z]; obtain ⟨old, he⟩ := hE; exact Heap.lt_size he
      · rw [z]; obtain ⟨o, q, _⟩ := Inn.own_obj ho; exact Heap.lt_size q
    rw [upd_ne (show b ≠ Tp from Nat.ne_of_lt (Nat.lt_of_lt_of_le this hT))]
    exact (hf b hb).1
  done := by
    intro X hP hw hK hc i pins s σ H E I hf st hg
    subst hP hw hK
    obtain ⟨hE, ho, hne⟩ := st
    obtain ⟨xs, hx, hl⟩ := hg
    obtain ⟨fp, P, S, d⟩ := Inn.draws I hc (hf it (by simp)).1 hx ho
    have hef : e ∉ it :: fp := fun hm => by
      rcases List.mem_cons.mp hm with z | z
      · exact hne z
      · exact d.tr e z (hf e (by simp)).1
    have stn : (∃ old, IsEnum s.heap e it ((0 : Int) + (xs.length : Int)) old) ∧ S xs.length s.heap := by rw [hl]; exact ⟨hE, d.st⟩
    refine thn ((GoesN.enumFrom (elts := elts) (x1 := kk) (pos := tpos) (0 : Int) d.dr e hne hef (by simp)).stops s (fun s1 => Inv X pins σ H s1) E stn fun h' tk hk htk => ?_) fun r s1 h => h
    exact I.turnedL (t' := tk) (ch := [e, it]) (fun b o hb q => hk b o hb q) hf
  self := fun A i s Q E st h => let ⟨⟨_, he⟩, _⟩ := st; wpAny_pyIter_enum he h
/-! ### zip of two -/
def ItZ (n m : Inn) : It := ⟨fun i H => ∃ xs x ys y, n.has H xs ∧ xs[i]? = some x ∧ m.has H ys ∧ ys[i]? = some y, fun i H v H' => ∃ T x y, v = .ref T ∧ H T = none ∧ H' = upd H T (.tup [x, y]) ∧ (∀ xs, n.has H xs → xs[i]? = some x) ∧ ∀ ys, m.has H ys → ys[i]? = some y,
  fun i H => ∃ xs ys, n.has H xs ∧ m.has H ys ∧ min xs.length ys.length = i⟩
theorem zsep {a b : Addr} {i1 i2 z TI TO : Addr} {fp1 fp2 : List Addr} (t1 : ∀ b ∈ fp1, H b ≠ none) (t2 : ∀ b ∈ fp2, H b ≠ none) (f : ∀ b ∈ [z, TI, TO, i1, i2], H b = none) (nd : [z, TI, TO, i1, i2].Nodup) : ZipSep2 z TI TO i1 i2 (i1 :: fp1) (i2 :: fp2) := by
  have o : ∀ {b : Addr} {fp : List Addr}, b ∈ [z, TI, TO, i1, i2] → (∀ b ∈ fp, H b ≠ none) → b ∉ fp := fun hb t hm => t _ hm (f _ hb)
  simp only [List.nodup_cons, List.mem_cons, List.not_mem_nil, or_false, not_or] at nd
  obtain ⟨⟨a1, a2, a3, a4⟩, ⟨b1, b2, b3⟩, ⟨c1, c2⟩, d1, _⟩ := nd
  refine ⟨Ne.symm a1, Ne.symm a2, b1, b2, by simp, ?_, ?_, b3, by simp, ?_, ?_, ?_, ?_⟩
  · simp only [List.mem_cons, not_or]; exact ⟨a3, o (by simp) t1⟩
  · simp only [List.mem_cons, not_or]; exact ⟨c1, o (by simp) t1⟩
  · simp only [List.mem_cons, not_or]; exact ⟨a4, o (by simp) t2⟩
  · simp only [List.mem_cons, not_or]; exact ⟨c2, o (by simp) t2⟩
  · simp only [List.mem_cons, not_or]; exact ⟨d1, o (by simp) t2⟩
  · simp only [List.mem_cons, not_or]; exact ⟨Ne.symm d1, o (by simp) t1⟩
theorem turn_zipG {P : Program} {w : World} {K : PySem.W.Frag} {elts : List Expr} {kk : Nat} {tpos : Pos} (n m : Inn) (z TI TO i1 i2 : Addr) (nd : [z, TI, TO, i1, i2].Nodup) :
    Turn P w K (.Tuple elts kk tpos) (ItZ n m) [z, TI, TO, i1, i2] z (fun i h => IsZip h z TI TO .none ∧ IsTupOf2 h TI (.ref i1) (.ref i2) ∧ (∃ a1 a2, IsTupOf2 h TO a1 a2) ∧ n.own i1 i h ∧ m.own i2 i h) where
  mem := by simp
  obj := fun i h st c hc => by
    obtain ⟨hz, hTI, ⟨x, y, hTO⟩, o1, o2⟩ := st
    have e' : c = z ∨ c = TI ∨ c = TO ∨ c = i1 ∨ c = i2 := by simpa using hc
    rcases e' with q | q | q | q | q
    · rw [q]; exact ⟨_, hz, fun v q => nomatch q⟩
    · rw [q]; exact ⟨_, hTI, fun v q => nomatch q⟩
    · rw [q]; exact ⟨_, hTO, fun v q => nomatch q⟩
    · rw [q]; exact Inn.own_obj o1
    · rw [q]; exact Inn.own_obj o2
  keep := fun i h h' st k => by
    obtain ⟨hz, hTI, ⟨x, y, hTO⟩, h1, h2⟩ := st
    exact ⟨k z (by simp) _ hz, k TI (by simp) _ hTI, ⟨x, y, k TO (by simp) _ hTO⟩, Inn.own_at h1 fun o q => k i1 (by simp) o q, Inn.own_at h2 fun o q => k i2 (by simp) o q⟩
  item := by
    intro X hP hw hK hc i pins s σ H E I hf st hg
    subst hP hw hK
    obtain ⟨hz, hTI, hTO, o1, o2⟩ := st
    obtain ⟨xs, x, ys, y, hx, hxi, hy, hyi⟩ := hg
    obtain ⟨fp1, P1, S1, d1⟩ := Inn.draws I hc (hf i1 (by simp)).1 hx o1
    obtain ⟨fp2, P2, S2, d2⟩ := Inn.draws I hc (hf i2 (by simp)).1 hy o2
    have sep := zsep (a := 0) (b := 0) d1.tr d2.tr (fun b hb => (hf b hb).1) nd
    have hi : i < min xs.length ys.length := by
      have := (List.getElem?_eq_some_iff.mp hxi).1
      have := (List.getElem?_eq_some_iff.mp hyi).1
      omega
    refine (GoesN.zip2 sep d1.dr d2.dr).goes i s (fun u s2 => ∃ x H', Inv X pins σ H' s2 ∧ RelV x u ∧ (ItZ n m).yld i H x H' ∧ (IsZip s2.heap z TI TO .none ∧ IsTupOf2 s2.heap TI (.ref i1) (.ref i2) ∧ (∃ a1 a2, IsTupOf2 s2.heap TO a1 a2) ∧ n.own i1 (i + 1) s2.heap ∧ m.own i2 (i + 1) s2.heap) ∧ ∀ b ∈ [z, TI, TO, i1, i2], H' b = none) E hi ⟨hz, hTI, hTO, d1.st, d2.st⟩ fun v h' tk hY st' hk htk => ?_
    obtain ⟨Tp, u1, u2, ev, hT, hP1, hP2, hTup⟩ := hY
    subst ev
    obtain ⟨x1, hx1, ru1⟩ := d1.yl i u1 hP1
    obtain ⟨x2, hx2, ru2⟩ := d2.yl i u2 hP2
    have new : ObjOk X.prog X.w (upd H Tp (.tup [x1, x2])) h' Tp (.tup [x1, x2]) := ⟨by show 2 ≤ sizeLine; decide, [u1, u2], .cons ru1 (.cons ru2 .nil), hTup⟩
    have I1 : Inv X pins σ (upd H Tp (.tup [x1, x2])) { s with heap := h', toks := tk } := I.turnedNew (ch := [z, TI, TO, i1, i2]) (fun b ob hb q => hk b ob (fun hm => hb (by
      have : b = z ∨ b = TO ∨ b = i1 ∨ b = i2 := by simpa using hm
      rcases this with q | q | q | q <;> simp [q])) q) hf hT new
    refine ⟨.ref Tp, _, I1, rfl, ⟨Tp, x1, x2, rfl, I.hok.fresh hT, rfl, fun l hl => by rw [Inn.inj hl hx]; exact hx1, fun l hl => by rw [Inn.inj hl hy]; exact hx2⟩, ⟨st'.1, st'.2.1, st'.2.2.1, d1.ow _ _ st'.2.2.2.1, d2.ow _ _ st'.2.2.2.2⟩, fun b hb => ?_⟩
    have : b < s.heap.objs.size := by
      have e' : b = z ∨ b = TI ∨ b = TO ∨ b = i1 ∨ b = i2 := by simpa using hb
      rcases e' with q | q | q | q | q
      · rw [q]; exact Heap.lt_size hz
      · rw [q]; exact Heap.lt_size hTI
      · rw [q]; obtain ⟨_, _, e⟩ := hTO; exact Heap.lt_size e
      · rw [q]; obtain ⟨o, q, _⟩ := Inn.own_obj o1; exact Heap.lt_size q
      · rw [q]; obtain ⟨o, q, _⟩ := Inn.own_obj o2; exact Heap.lt_size q
    rw [upd_ne (show b ≠ Tp from Nat.ne_of_lt (Nat.lt_of_lt_of_le this hT))]
    exact (hf b hb).1
  done := by
    intro X hP hw hK hc i pins s σ H E I hf st hg
    subst hP hw hK
    obtain ⟨hz, hTI, hTO, o1, o2⟩ := st
    obtain ⟨xs, ys, hx, hy, hl⟩ := hg
    obtain ⟨fp1, P1, S1, d1⟩ := Inn.draws I hc (hf i1 (by simp)).1 hx o1
    obtain ⟨fp2, P2, S2, d2⟩ := Inn.draws I hc (hf i2 (by simp)).1 hy o2
    have sep := zsep (a := 0) (b := 0) d1.tr d2.tr (fun b hb => (hf b hb).1) nd
    have stn : IsZip s.heap z TI TO .none ∧ IsTupOf2 s.heap TI (.ref i1) (.ref i2) ∧ (∃ a1 a2, IsTupOf2 s.heap TO a1 a2) ∧ S1 (min xs.length ys.length) s.heap ∧ S2 (min xs.length ys.length) s.heap := by rw [hl]; exact ⟨hz, hTI, hTO, d1.st, d2.st⟩
    refine thn ((GoesN.zip2 (elts := elts) (x1 := kk) (pos := tpos) sep d1.dr d2.dr).stops s (fun s1 => Inv X pins σ H s1) E stn fun h' tk hk htk => ?_) fun r s1 h => h
    exact I.turnedL (t' := tk) (ch := [z, TI, TO, i1, i2]) (fun b o hb q => hk b o (fun hm => hb (by
      have : b = z ∨ b = TO ∨ b = i1 ∨ b = i2 := by simpa using hm
      rcases this with q | q | q | q <;> simp [q])) q) hf
  self := fun A i s Q E st h => wpAny_pyIter_zip st.1 h
end SW
end
section
/-! Codes of what is walked. -/
namespace SW
open PySem PySem.Spec PyProof.Rows L2 SlX
variable {T : Tab} {O : Out} {ρ ρ1 ρ' : List Addr} {F F1 F' : Fz} {H H1 H' : Hp} {h h1 : CH} {s : SW.St} {σ : L2.St} {k : K} {x : KX} {Q : VK} {W : WX} {X : Cx}
def ItP (K : PySem.W.Frag) : Inn → It
  | .lst a => Itl K a
  | .tup a => Itt K a
  | .str z => Its z
theorem pi_val {tg e : Expr} {te : TE} (he : PE X e te) : PI X tg e (fun σ H R => te σ H fun v H1 => ∃ n : Inn, n.val = v ∧ (∃ xs, n.has H1 xs) ∧ R (ItP X.K n) H1) := by
  refine ⟨fun pins s σ H R I h => ?_⟩
  refine thn (he.run pins s σ H _ I h) fun v s1 ⟨x, H1, I1, r1, n, en, ⟨xs, hx⟩, q⟩ => ?_
  subst en
  cases n with
  | lst a =>
    cases r1
    obtain ⟨its, rv, p, hz⟩ := I1.list (.inl (.inl hx))
    refine wpAny_pyIter_list p.isList ?_
    refine ⟨s1.heap.objs.size, [s1.heap.objs.size], _, _, H1, rfl, I1.kept (t' := s1.toks) fun b o e => Heap.get?_push_of_some _ e, turn_list a _, ⟨_, Heap.get?_push_size _ rfl, rfl, rfl⟩, fun b hb => ?_, q⟩
    have e : b = s1.heap.objs.size := by simpa using hb
    subst e
    exact I1.fpOk (Nat.le_refl _) (I1.hok.fresh (Nat.le_refl _))
  | tup a =>
    cases r1
    obtain ⟨its, rv, p, hz⟩ := I1.tuple (.inl (.inl hx))
    refine wpAny_pyIter_tuple (show s1.heap.IsTuple a its.toArray from p) ?_
    refine ⟨s1.heap.objs.size, [s1.heap.objs.size], _, _, H1, rfl, I1.kept (t' := s1.toks) fun b o e => Heap.get?_push_of_some _ e, turn_tuple a _, ⟨_, Heap.get?_push_size _ rfl, rfl, rfl⟩, fun b hb => ?_, q⟩
    have e : b = s1.heap.objs.size := by simpa using hb
    subst e
    exact I1.fpOk (Nat.le_refl _) (I1.hok.fresh (Nat.le_refl _))
  | str z =>
    obtain ⟨t, rfl⟩ := r1
    cases ha : z.cps.all (· < 128)
    · exact wpAny_pyIter_wide ha (pi_one (tk := s1.toks) I1 _ (turn_str _ z t "str_iterator" (.inr rfl)) ⟨_, Heap.get?_push_size _ rfl, rfl, rfl⟩ q)
    · exact wpAny_pyIter_ascii ha (pi_one (tk := s1.toks) I1 _ (turn_str _ z t "str_ascii_iterator" (.inl rfl)) ⟨_, Heap.get?_push_size _ rfl, rfl, rfl⟩ q)
/-- a source that tells what a list, a tuple, a text holds -/
structure InnOk (T : Tab) (n : Inn) (ρ0 : List Addr) (F0 : Fz) (H0 : Hp) (c : Src) : Prop where
  has : ∃ R : Nat → Src → Prop, R 0 c ∧ ∀ (i : Nat) (c : Src) (ρ : List Addr) (F : Fz) (H : Hp) (h : CH) (O : Out) (st : A) (go : DV → Src → A), R i c → Le ρ0 F0 H0 ρ F H → Rep T ρ F H h → nxt c i h st go = some O →
    ∃ xs, n.has H xs ∧ ((st = some O ∧ xs.length = i) ∨ ∃ d c' x, go d c' = some O ∧ R (i + 1) c' ∧ xs[i]? = some x ∧ RV T ρ F H d x)
theorem InnOk.le {n : Inn} {c : Src} (a : InnOk T n ρ F H c) (l : Le ρ F H ρ1 F1 H1) : InnOk T n ρ1 F1 H1 c := by
  obtain ⟨R, R0, f⟩ := a.has
  exact ⟨R, R0, fun i c ρ F H h O st go r l2 rp e => f i c ρ F H h O st go r (l.trans l2) rp e⟩
theorem innOk_fix {n : Inn} {L : List DV} (f : ∀ ρ1 F1 H1, Le ρ F H ρ1 F1 H1 → ∃ xs, n.has H1 xs ∧ RVs T F1 H1 L xs) : InnOk T n ρ F H (.fix L) := by
  refine ⟨fun i c => i ≤ L.length ∧ c = .fix (L.drop i), ⟨Nat.zero_le _, rfl⟩, ?_⟩
  rintro i c ρ1 F1 H1 h O st go ⟨hi, rfl⟩ l rp e
  obtain ⟨xs, hx, rv⟩ := f ρ1 F1 H1 l
  refine ⟨xs, hx, ?_⟩
  by_cases z : i < L.length
  · have e' : nxt (.fix (L[i] :: L.drop (i + 1))) i h st go = some O := by rw [← List.drop_eq_getElem_cons z]; exact e
    obtain ⟨x, hxi, rx⟩ := rv.at (List.getElem?_eq_getElem z)
    exact .inr ⟨L[i], _, x, e', ⟨z, rfl⟩, hxi, .imm rx⟩
  · have zi : i = L.length := by omega
    subst zi
    rw [List.drop_length] at e
    exact .inl ⟨e, rv.length.symm⟩
theorem innOk_cell {i : Nat} {a : Addr} (ea : ρ[i]? = some a) : InnOk T (.lst a) ρ F H (.cell i) := by
  refine ⟨fun _ c => c = .cell i, rfl, ?_⟩
  rintro j c ρ1 F1 H1 h O st go rfl l rp e
  obtain ⟨mo, em, e1⟩ := nthK_some (show nthK h i _ = some O from e)
  obtain ⟨n, L, el, e1⟩ := mLst_some e1
  subst el
  obtain ⟨a', ea', b1, b2, vs, e2, q⟩ := rp.cells i _ em
  rw [l.at ea] at ea'
  cases ea'
  refine ⟨vs, e2, ?_⟩
  rcases nthO_some e1 with ⟨h1, h2⟩ | ⟨d, h1, h2⟩
  · exact .inl ⟨h1, by rw [← q.len]; exact h2⟩
  · obtain ⟨v, hv, rv⟩ := q.at h1
    exact .inr ⟨d, _, v, h2, rfl, hv, rv⟩
theorem chars_rv : ∀ {z : List Nat}, (∀ c ∈ z, c < 1114112) → RVs T F H (chars z) (z.map fun c => V.str ⟨#[c]⟩)
  | [], _ => .nil
  | c :: z, h => .cons (.str ⟨(by decide : 1 ≤ 1000000), fun y hy => by rw [List.mem_singleton.mp hy]; exact h c (List.mem_cons_self ..)⟩) (chars_rv fun y hy => h y (List.mem_cons_of_mem _ hy))
theorem signs_tx (z : List Nat) : signs (tx z) = z.map fun c => V.str ⟨#[c]⟩ := by
  unfold signs
  simp
theorem inn_of {d : DV} {v : V} {k : Src → CH → A} (e : srcOf d h k = some O) (rp : Rep T ρ F H h) (rv : RV T ρ F H d v) : ∃ n src, n.val = v ∧ (∃ xs, n.has H xs) ∧ k src h = some O ∧ InnOk T n ρ F H src := by
  cases d with
  | str z =>
    obtain ⟨ev, ok⟩ := rv.str_inv
    exact ⟨.str (tx z), _, ev.symm, ⟨_, rfl⟩, e, innOk_fix fun ρ1 F1 H1 l => ⟨_, rfl, by rw [signs_tx]; exact chars_rv ok.2⟩⟩
  | tup l =>
    obtain ⟨a, vs, ev, f, e1, q, n⟩ := rv.tup_inv
    exact ⟨.tup a, _, ev.symm, ⟨_, e1⟩, e, innOk_fix fun ρ1 F1 H1 l => ⟨vs, l.fr a _ f e1, q.le l⟩⟩
  | lst l =>
    obtain ⟨a, vs, ev, f, e1, q, n⟩ := rv.lst_inv
    exact ⟨.lst a, _, ev.symm, ⟨_, e1⟩, e, innOk_fix fun ρ1 F1 H1 l => ⟨vs, l.fr a _ f e1, q.le l⟩⟩
  | ref i =>
    obtain ⟨mo, em, e1⟩ := nthK_some (show nthK h i _ = some O from e)
    obtain ⟨n, L, el, e1⟩ := mLst_some e1
    subst el
    obtain ⟨a, ea, b1, b2, vs, e2, q⟩ := rp.cells i _ em
    obtain ⟨a', ev, ea'⟩ := rv.ref_inv
    rw [ea] at ea'
    cases ea'
    exact ⟨.lst a, _, ev.symm, ⟨_, e2⟩, e1, innOk_cell ea⟩
  | _ => cases e
theorem srcOk_plain {n : Inn} {c : Src} {K : PySem.W.Frag} (a : InnOk T n ρ F H c) : SrcOk T (ItP K n) ρ F H c := by
  obtain ⟨R, R0, f⟩ := a.has
  refine ⟨R, R0, fun i c ρ1 F1 H1 h O st go r l rp e => ?_⟩
  obtain ⟨xs, hx, h1⟩ := f i c ρ1 F1 H1 h O st go r l rp e
  rcases h1 with ⟨h1, h2⟩ | ⟨d, c', x, h1, r1, h2, rv⟩
  · refine .inl ⟨h1, ?_⟩
    cases n with
    | lst a => exact ⟨xs, .inl (.inl hx), Nat.le_of_eq h2⟩
    | tup a => exact ⟨xs, .inl (.inl hx), Nat.le_of_eq h2⟩
    | str z =>
      have hx : xs = signs z := hx
      subst hx
      unfold signs at h2
      show z.cps.size ≤ i
      simp at h2
      omega
  · refine .inr ⟨?_, d, c', h1, r1, fun v H' y => ?_⟩
    · cases n with
      | lst a => exact ⟨xs, x, .inl (.inl hx), h2⟩
      | tup a => exact ⟨xs, x, .inl (.inl hx), h2⟩
      | str z =>
        have hx : xs = signs z := hx
        subst hx
        have := (List.getElem?_eq_some_iff.mp h2).1
        unfold signs at this
        show i < z.cps.size
        simpa using this
    · have key : H' = H1 ∧ v = x := by
        cases n with
        | lst a =>
          obtain ⟨e1, e2⟩ := y
          have := e2 xs (.inl (.inl hx))
          rw [h2] at this
          exact ⟨e1, (Option.some.inj this).symm⟩
        | tup a =>
          obtain ⟨e1, e2⟩ := y
          have := e2 xs (.inl (.inl hx))
          rw [h2] at this
          exact ⟨e1, (Option.some.inj this).symm⟩
        | str z =>
          obtain ⟨e1, c, e2, e3⟩ := y
          have hx : xs = signs z := hx
          subst hx
          unfold signs at h2
          rw [List.getElem?_map] at h2
          have e2' : z.cps.toList[i]? = some c := by simpa using e2
          rw [e2'] at h2
          exact ⟨e1, e3.trans (Option.some.inj h2)⟩
      obtain ⟨e1, e2⟩ := key
      subst e1 e2
      exact ⟨F1, .refl, rp, rv⟩
theorem srcOk_enu {n : Inn} {c : Src} (a : InnOk T n ρ F H c) : SrcOk T (ItE n) ρ F H (.enu c) := by
  obtain ⟨R, R0, f⟩ := a.has
  refine ⟨fun i c => ∃ c0, c = .enu c0 ∧ R i c0, ⟨c, rfl, R0⟩, ?_⟩
  rintro i c ρ1 F1 H1 h O st go ⟨c0, rfl, r⟩ l rp e
  obtain ⟨xs, hx, h1⟩ := f i c0 ρ1 F1 H1 h O st _ r l rp (show nxt c0 i h st _ = some O from e)
  rcases h1 with ⟨h1, h2⟩ | ⟨d, c', x, h1, r1, h2, rv⟩
  · exact .inl ⟨h1, xs, hx, h2⟩
  · obtain ⟨nd, h1⟩ := bsel_some h1
    refine .inr ⟨⟨xs, x, hx, h2⟩, _, _, h1, ⟨c', rfl, r1⟩, fun v H' y => ?_⟩
    obtain ⟨Tp, x', ev, hT, eH, hy⟩ := y
    subst ev eH
    have := hy xs hx
    rw [h2] at this
    cases this
    have l3 : Le ρ1 F1 H1 ρ1 (fzA F1 Tp) (upd H1 Tp (.tup [.int (i : Nat), x])) := Le.new hT
    exact ⟨fzA F1 Tp, l3, rp.new hT, .imm (.tup fzA_self upd_same (.cons (.int _) (.cons ((rv.imm_of nd).le l3) .nil)) (by decide : 2 ≤ 1000000))⟩
theorem srcOk_zip {n m : Inn} {c1 c2 : Src} (a : InnOk T n ρ F H c1) (b : InnOk T m ρ F H c2) : SrcOk T (ItZ n m) ρ F H (.zip c1 c2) := by
  obtain ⟨R, R0, f⟩ := a.has
  obtain ⟨R', R0', f'⟩ := b.has
  refine ⟨fun i c => ∃ c1 c2, c = .zip c1 c2 ∧ R i c1 ∧ R' i c2, ⟨c1, c2, rfl, R0, R0'⟩, ?_⟩
  rintro i c ρ1 F1 H1 h O st go ⟨c1, c2, rfl, r, r'⟩ l rp e
  obtain ⟨xs, hx, h1⟩ := f i c1 ρ1 F1 H1 h O _ _ r l rp (show nxt c1 i h _ _ = some O from e)
  rcases h1 with ⟨h1, h2⟩ | ⟨d, c', x, h1, r1, h2, rv⟩
  · obtain ⟨ys, hy, h3⟩ := f' i c2 ρ1 F1 H1 h O _ _ r' l rp h1
    refine .inl ?_
    rcases h3 with ⟨h3, h4⟩ | ⟨d, c', x, h3, _, h4, _⟩
    · exact ⟨h3, xs, ys, hx, hy, by omega⟩
    · have := (List.getElem?_eq_some_iff.mp h4).1
      exact ⟨h3, xs, ys, hx, hy, by omega⟩
  · obtain ⟨ys, hy, h3⟩ := f' i c2 ρ1 F1 H1 h O _ _ r' l rp h1
    rcases h3 with ⟨h3, h4⟩ | ⟨d2, c2', x2, h3, r2, h4, rv2⟩
    · have := (List.getElem?_eq_some_iff.mp h2).1
      exact .inl ⟨h3, xs, ys, hx, hy, by omega⟩
    · obtain ⟨nd, h3⟩ := bsel_some h3
      obtain ⟨nd2, h3⟩ := bsel_some h3
      refine .inr ⟨⟨xs, x, ys, x2, hx, h2, hy, h4⟩, _, _, h3, ⟨c', c2', rfl, r1, r2⟩, fun v H' y => ?_⟩
      obtain ⟨Tp, x', y', ev, hT, eH, q1, q2⟩ := y
      subst ev eH
      have := q1 xs hx
      rw [h2] at this
      cases this
      have := q2 ys hy
      rw [h4] at this
      cases this
      have l3 : Le ρ1 F1 H1 ρ1 (fzA F1 Tp) (upd H1 Tp (.tup [x, x2])) := Le.new hT
      exact ⟨fzA F1 Tp, l3, rp.new hT, .imm (.tup fzA_self upd_same (.cons ((rv.imm_of nd).le l3) (.cons ((rv2.imm_of nd2).le l3) .nil)) (by decide : 2 ≤ 1000000))⟩
/-! ### the codes -/
noncomputable section
def iEnu (c : Code) : ICode := fun s h k x => c s h (fun d h => srcOf d h fun c h => k (.enu c) h) x
def iZip (a b : Code) : ICode := fun s h k x => a s h (fun d h => b s h (fun e h => srcOf d h fun c h => srcOf e h fun c' h => k (.zip c c') h) x) x
/-- a range, made at once -/
def smallI (i : Int) (y : A) : A := bsel (iLt (.negSucc 4611686018427387903) i) (bsel (iLt i (.ofNat 4611686018427387904)) y none) none
def toN (i : Int) (k : Nat → A) : A := @Int.rec (fun _ => A) (fun n => k n) (fun _ => k 0) i
def rngF (lo : Int) (n : Nat) (k : List DV → A) : A := @Nat.rec (fun _ => Int → (List DV → A) → A) (fun _ k => k []) (fun _ ih lo k => forceI (iAdd lo (.ofNat 1)) fun lo' => ih lo' fun l => k (.int lo :: l)) n lo k
def rngK (lo hi : Int) (h : CH) (k : Src → CH → A) : A := smallI lo (smallI hi (toN (iSub hi lo) fun n => bsel (Nat.ble n 1000000) (rngF lo n fun l => k (.fix l) h) none))
def iRng1 (a : LCode) : ICode := fun s h k x => a s h (fun l h => @List.rec DV (fun _ => A) none (fun d _ _ => dInt d fun j => rngK (.ofNat 0) j h k) l) x
def iRng2 (a : LCode) : ICode := fun s h k x => a s h (fun l h => @List.rec DV (fun _ => A) none (fun d l _ => @List.rec DV (fun _ => A) none (fun e _ _ => dInt d fun i => dInt e fun j => rngK i j h k) l) l) x
end
theorem RVI.gen {i : Int} : RVI T F H (.int i) (.int i) := .int i
theorem sndi_val {tg e : Expr} {c : Code} (he : Snd T X W e c) : SndI T X W tg e (iVal c) := by
  refine PI.imp (pi_val he) fun σ H R hq => ?_
  obtain ⟨O, ρ, F, s, h, k, x, rp, rs, e, pk, px⟩ := hq
  refine RdE.seq rp rs e px fun u h1 ρ1 F1 H1 u' e1 l1 r1 ru rs1 px1 => ?_
  obtain ⟨n, src, ev, hx, e2, ok⟩ := inn_of e1 r1 ru
  exact ⟨n, ev, hx, pk src h1 e2 ρ1 F1 H1 _ l1 r1 (srcOk_plain ok)⟩
set_option maxHeartbeats 1000000 in
theorem meets_enum_new1 {v : Value} {o : Obj} {H : Heap → Prop} (B : Begins v o H) :
    Meets (Builtin.«enumerate.__new__» ⟨[.type "enumerate", v], []⟩) (fun _ R s => H s.heap ∧
      R (.ok (.ret (.ref (s.heap.push o).objs.size))) { s with heap := (s.heap.push o).push { cls := .type "enumerate", data := .fields #[.none, .bool false, .ref s.heap.objs.size, rawInt 0, .none, .none] } }) :=
  .of_wp fun prog w A R s h => by
    obtain ⟨hp, g, d, tk, os⟩ := s; obtain ⟨h1, h⟩ := h
    have hsub := sub_enumerate
    have q1 : ∀ {A' : Around} {E : Value → Shared → Prop} {Q : Value → Shared → Prop}, Q (.ref hp.objs.size) ⟨hp.push o, g, d, tk, os⟩ → wpAny (model prog w) A' (pyIter v) Q E ⟨hp, g, d, tk, os⟩ :=
      fun q => B.iter prog w _ _ ⟨hp, g, d, tk, os⟩ _ h1 q
    wp_walk using q1
    refine wpAny_stack_any fun st => wpAny_pure ?_
    split
    · rename_i c _ _ _ _ _
      cases (c == Value.type "enumerate")
      · wp_walk using q1
        exact ⟨_, rfl, h⟩
      · wp_walk using q1
        exact ⟨_, rfl, h⟩
    · wp_walk using q1
      exact ⟨_, rfl, h⟩
theorem enum_begins1 {prog : Program} {w : World} {A : Around} {E : Value → Shared → Prop} {s : Shared} {v : Value} {o : Obj} {H : Heap → Prop} {Q : Value → Shared → Prop} (B : Begins v o H) (h1 : H s.heap)
    (h : ∀ h', IsEnum h' (s.heap.objs.size + 1) s.heap.objs.size 0 .none → h'.get? s.heap.objs.size = some o → h'.objs.size = s.heap.objs.size + 2 →
      (∀ b o, s.heap.get? b = some o → h'.get? b = some o) → Q (.ref (s.heap.objs.size + 1)) { s with heap := h' }) :
    wpAny (model prog w) A (call (.type "enumerate") [v]) Q E s := by
  refine callType_new F.called_enumerate (by decide) (F.typeCall_enumerate_1 _) (F.newCall_enumerate_1 _) (fun obj => F.args_object_init_2 obj _) F.entry_enumerate_new
    (meets_enum_new1 B) ⟨h1, ?_⟩
  have hz : (s.heap.push o).objs.size = s.heap.objs.size + 1 := Heap.size_push ..
  show _ ∧ _
  rw [hz]
  have he : IsEnum ((s.heap.push o).push { cls := .type "enumerate", data := .fields #[.none, .bool false, .ref s.heap.objs.size, rawInt 0, .none, .none] }) (s.heap.objs.size + 1) s.heap.objs.size 0 .none := by
    have := Heap.get?_push_size (s.heap.push o) (o := { cls := .type "enumerate", data := .fields #[.none, .bool false, .ref s.heap.objs.size, rawInt 0, .none, .none] }) rfl
    rw [hz] at this; exact this
  refine ⟨⟨_, he, rfl⟩, h _ he (Heap.get?_push_of_some _ (Heap.get?_push_size _ B.free)) (by rw [Heap.size_push, hz]) fun b o x => Heap.get?_push_of_some _ (Heap.get?_push_of_some _ x)⟩
theorem pi_enuG {e : Expr} {te : TE} {p pos tpos : Pos} {elts : List Expr} {kk : Nat} (hg : Gl X "enumerate") (hm : X.mg "enumerate" = none) (he : PE X e te) (hs : starEach [e] X.env = (false, eval e X.env) :: starEach [] X.env) :
    PI X (.Tuple elts kk tpos) (.Call (.Name "enumerate" p) [e] [] pos) (fun σ H R => te σ H fun v H1 => ∃ n : Inn, n.val = v ∧ (∃ xs, n.has H1 xs) ∧ R (ItE n) H1) := by
  refine ⟨fun pins s σ H R I h => ?_⟩
  refine Call_ (ld_blt I hg hm boot_enumerate (PyProof.Rows.callWith_type1 (args_cons (thn (he.run pins s σ H _ I h) fun u s1 ⟨v, H1, I1, r1, q1⟩ => args_nil ?_) hs) hs rfl))
  obtain ⟨n, ev, ⟨xs, hx⟩, q⟩ := q1
  subst ev
  obtain ⟨o, G, B, g, ow⟩ := Inn.begins I1 hx r1
  refine enum_begins1 B g fun h' he hit hsz hk => wpAny_pyIter_enum he ?_
  have I2 : Inv X pins σ H1 { s1 with heap := h' } := I1.kept (t' := s1.toks) hk
  refine ⟨s1.heap.objs.size + 1, [s1.heap.objs.size + 1, s1.heap.objs.size], _, _, H1, rfl, I2, turn_enu n (s1.heap.objs.size + 1) s1.heap.objs.size, ⟨⟨.none, by simpa using he⟩, ow _ _ hit, Nat.succ_ne_self _⟩, fun b hb => ?_, q⟩
  have e' : b = s1.heap.objs.size + 1 ∨ b = s1.heap.objs.size := by simpa using hb
  have hle : s1.heap.objs.size ≤ b := by
    rcases e' with z | z
    · rw [z]; exact Nat.le_add_right _ _
    · rw [z]; exact Nat.le_refl _
  exact I1.fpOk hle (I1.hok.fresh hle)
theorem pi_zipG {e e2 : Expr} {ta : TA} {p pos tpos : Pos} {elts : List Expr} {kk : Nat} (hg : Gl X "zip") (hm : X.mg "zip" = none) (ha : PA X [e, e2] ta)
    (hs : starEach [e, e2] X.env = (false, eval e X.env) :: starEach [e2] X.env) (hpl : (backTo pos (starEach [e2] X.env)).any (·.1) = false) :
    PI X (.Tuple elts kk tpos) (.Call (.Name "zip" p) [e, e2] [] pos) (fun σ H R => ta σ H fun vs H1 => ∃ n m : Inn, vs = [n.val, m.val] ∧ (∃ xs, n.has H1 xs) ∧ (∃ xs, m.has H1 xs) ∧ R (ItZ n m) H1) := by
  refine ⟨fun pins s σ H R I h => ?_⟩
  refine Call_ (ld_blt I hg hm PyProof.Rows.boot_zip (PyProof.Rows.callWith_type1 (thn (ha.run pos pins s σ H _ I h) fun us s1 ⟨vs, H1, I1, r1, q1⟩ => ?_) hs hpl))
  obtain ⟨n, m, ex, ⟨xs, hx⟩, ⟨ys, hy⟩, q⟩ := q1
  subst ex
  cases r1 with
  | cons r rr =>
    cases rr with
    | cons r' rr =>
      cases rr
      obtain ⟨o1, G1, B1, g1, ow1⟩ := Inn.begins I1 hx r
      obtain ⟨o2, G2, B2, g2, ow2⟩ := Inn.begins I1 hy r'
      refine zip_begins2 B1 B2 g1 g2 fun h' hz hTI hTO h1 h2 hsz hk => wpAny_pyIter_zip hz ?_
      have I2 : Inv X pins σ H1 { s1 with heap := h' } := I1.kept (t' := s1.toks) hk
      refine ⟨s1.heap.objs.size + 4, [s1.heap.objs.size + 4, s1.heap.objs.size + 2, s1.heap.objs.size + 3, s1.heap.objs.size, s1.heap.objs.size + 1], _, _, H1, rfl, I2, turn_zipG n m _ _ _ _ _ (by
        simp only [List.nodup_cons, List.mem_cons, List.not_mem_nil, or_false, not_or, not_false_eq_true, List.nodup_nil, and_true]
        refine ⟨⟨?_, ?_, ?_, ?_⟩, ⟨?_, ?_, ?_⟩, ⟨?_, ?_⟩, ?_⟩ <;> intro z <;> (have z' : (_ : Nat) = _ := z; omega)), ⟨hz, hTI, ⟨_, _, hTO⟩, ow1 _ _ h1, ow2 _ _ h2⟩, fun c hcm => ?_, q⟩
      have e' : c = s1.heap.objs.size + 4 ∨ c = s1.heap.objs.size + 2 ∨ c = s1.heap.objs.size + 3 ∨ c = s1.heap.objs.size ∨ c = s1.heap.objs.size + 1 := by simpa using hcm
      have hle : s1.heap.objs.size ≤ c := by
        rcases e' with z | z | z | z | z
        · rw [z]; exact Nat.le_add_right _ _
        · rw [z]; exact Nat.le_add_right _ _
        · rw [z]; exact Nat.le_add_right _ _
        · rw [z]; exact Nat.le_refl _
        · rw [z]; exact Nat.le_add_right _ _
      exact I1.fpOk hle (I1.hok.fresh hle)
theorem sndi_enu {e : Expr} {c : Code} {p pos tpos : Pos} {elts : List Expr} {kk : Nat} (hg : Gl X "enumerate") (hm : X.mg "enumerate" = none) (he : Snd T X W e c) (hs : starEach [e] X.env = (false, eval e X.env) :: starEach [] X.env) :
    SndI T X W (.Tuple elts kk tpos) (.Call (.Name "enumerate" p) [e] [] pos) (iEnu c) := by
  refine PI.imp (pi_enuG hg hm he hs) fun σ H R hq => ?_
  obtain ⟨O, ρ, F, s, h, k, x, rp, rs, e, pk, px⟩ := hq
  refine RdE.seq rp rs e px fun u h1 ρ1 F1 H1 u' e1 l1 r1 ru rs1 px1 => ?_
  obtain ⟨n, src, ev, hx, e2, ok⟩ := inn_of e1 r1 ru
  exact ⟨n, ev, hx, pk _ h1 e2 ρ1 F1 H1 _ l1 r1 (srcOk_enu ok)⟩
theorem sndi_zip {e e2 : Expr} {c c2 : Code} {p pos tpos : Pos} {elts : List Expr} {kk : Nat} (hg : Gl X "zip") (hm : X.mg "zip" = none) (he : Snd T X W e c) (he2 : Snd T X W e2 c2)
    (hs : starEach [e, e2] X.env = (false, eval e X.env) :: starEach [e2] X.env) (hpl : (backTo pos (starEach [e2] X.env)).any (·.1) = false) (hs2 : starEach [e2] X.env = (false, eval e2 X.env) :: starEach [] X.env) :
    SndI T X W (.Tuple elts kk tpos) (.Call (.Name "zip" p) [e, e2] [] pos) (iZip c c2) := by
  refine PI.imp (pi_zipG hg hm (snda_cons he (snda_cons he2 snda_nil hs2) hs) hs hpl) fun σ H R hq => ?_
  obtain ⟨O, ρ, F, s, h, k, x, rp, rs, e, pk, px⟩ := hq
  refine ⟨O, ρ, F, s, h, fun l h => @List.rec DV (fun _ => A) none (fun d l _ => @List.rec DV (fun _ => A) none (fun e _ _ => srcOf d h fun c h => srcOf e h fun c' h => k (.zip c c') h) l) l, x, rp, rs, e, fun ds h1 hn e1 ρ1 F1 H1 vs l1 r1 rvs => ?_, px⟩
  cases rvs with
  | nil => cases e1
  | cons ra rt => cases rt with
    | nil => cases e1
    | cons rb rt => cases rt with
      | cons _ _ => exact absurd hn (by simp)
      | nil =>
        have e1 : srcOf _ h1 _ = some O := e1
        obtain ⟨n, s1, ev, hx, e2, ok1⟩ := inn_of e1 r1 ra
        obtain ⟨m, s2, ev2, hx2, e3, ok2⟩ := inn_of e2 r1 rb
        exact ⟨n, m, by rw [ev, ev2], hx, hx2, pk _ h1 e3 ρ1 F1 H1 _ l1 r1 (srcOk_zip ok1 ok2)⟩
/-! ### ranges -/
theorem rngL_at {n : Nat} : ∀ {lo : Int} {i : Nat} {d : DV}, (rngL lo n)[i]? = some d → i < n ∧ d = .int (lo + i) := by
  induction n with
  | zero => intro lo i d e; cases e
  | succ n ih =>
    intro lo i d e
    cases i with
    | zero => cases e; exact ⟨Nat.succ_pos _, by simp⟩
    | succ i =>
      obtain ⟨h1, h2⟩ := ih (lo := iAdd lo (.ofNat 1)) (i := i) (d := d) e
      refine ⟨Nat.succ_lt_succ h1, ?_⟩
      rw [h2, iAdd_eq]
      congr 1
      show lo + 1 + (i : Int) = lo + ((i + 1 : Nat) : Int)
      omega
theorem rngL_len {n : Nat} : ∀ {lo : Int}, (rngL lo n).length = n := by
  induction n with
  | zero => intro lo; rfl
  | succ n ih => intro lo; exact congrArg (· + 1) (ih (lo := iAdd lo (.ofNat 1)))
theorem srcOk_rng {lo : Int} {n : Nat} : SrcOk T (Itr lo n) ρ F H (.fix (rngL lo n)) := by
  refine srcAt_fix (fun i d e ρ1 F1 H1 h l rp => ?_) fun ρ1 F1 H1 h l rp => ?_
  · obtain ⟨h1, h2⟩ := rngL_at e
    subst h2
    refine ⟨h1, fun v H' y => ?_⟩
    obtain ⟨e1, e2⟩ := y
    subst e1 e2
    exact ⟨F1, .refl, rp, .imm (.int _)⟩
  · show n ≤ _
    rw [rngL_len]
    exact Nat.le_refl _
theorem smallI_some {i : Int} {y : A} (e : smallI i y = some O) : (-(2 ^ 62) ≤ i ∧ i < 2 ^ 62) ∧ y = some O := by
  obtain ⟨e1, e⟩ := bsel_some e
  obtain ⟨e2, e⟩ := bsel_some e
  rw [iLt_eq] at e1 e2
  have h1 := of_decide_eq_true e1
  have h2 := of_decide_eq_true e2
  have z1 : Int.negSucc 4611686018427387903 = -4611686018427387904 := rfl
  have z2 : Int.ofNat 4611686018427387904 = (4611686018427387904 : Int) := rfl
  rw [z1] at h1
  rw [z2] at h2
  exact ⟨⟨by omega, by omega⟩, e⟩
theorem toN_eq (i : Int) (k : Nat → A) : toN i k = k i.toNat := by cases i <;> rfl
theorem rngF_eq : ∀ (n : Nat) (lo : Int) (k : List DV → A), rngF lo n k = k (rngL lo n)
  | 0, _, _ => rfl
  | n + 1, lo, k => by
    show forceI (iAdd lo (.ofNat 1)) (fun lo' => rngF lo' n fun l => k (.int lo :: l)) = _
    rw [forceI_eq, rngF_eq n]
    rfl
theorem rngK_some {lo hi : Int} {k : Src → CH → A} (e : rngK lo hi h k = some O) : (-(2 ^ 62) ≤ lo ∧ lo < 2 ^ 62 ∧ -(2 ^ 62) ≤ hi ∧ hi < 2 ^ 62) ∧ k (.fix (rngL lo (hi - lo).toNat)) h = some O := by
  obtain ⟨a, e⟩ := smallI_some e
  obtain ⟨b, e⟩ := smallI_some e
  rw [toN_eq, iSub_eq] at e
  obtain ⟨_, e⟩ := bsel_some e
  rw [rngF_eq] at e
  exact ⟨⟨a.1, a.2, b.1, b.2⟩, e⟩
theorem sndi_rng1 {tg a : Expr} {ca : LCode} {p pos : Pos} (hg : Gl X "range") (hm : X.mg "range" = none) (ha : SndA T X W [a] ca) (hs : starEach [a] X.env = [(false, eval a X.env)]) : SndI T X W tg (.Call (.Name "range" p) [a] [] pos) (iRng1 ca) := by
  refine PI.imp (pi_range1 hg hm ha hs) fun σ H R hq => ?_
  obtain ⟨O, ρ, F, s, h, k, x, rp, rs, e, pk, px⟩ := hq
  refine ⟨O, ρ, F, s, h, _, _, rp, rs, e, fun ds h1 hn e1 ρ1 F1 H1 vs l1 r1 rvs => ?_, px⟩
  cases rvs with
  | nil => cases e1
  | cons ra rt => cases rt with
    | cons _ _ => exact absurd hn (by simp)
    | nil =>
      obtain ⟨j, ej, e2⟩ := dInt_some (show dInt _ _ = some O from e1)
      subst ej
      obtain ⟨b, e3⟩ := rngK_some e2
      refine ⟨j, by rw [ra.int_inv], b.2.2.1, b.2.2.2, ?_⟩
      have ez : j - Int.ofNat 0 = j := by show j - 0 = j; omega
      rw [ez] at e3
      exact pk _ h1 e3 ρ1 F1 H1 _ l1 r1 srcOk_rng
theorem sndi_rng2 {tg a b : Expr} {ca : LCode} {p pos : Pos} (hg : Gl X "range") (hm : X.mg "range" = none) (ha : SndA T X W [a, b] ca) (hs : starEach [a, b] X.env = [(false, eval a X.env), (false, eval b X.env)]) (hs2 : starEach [b] X.env = [(false, eval b X.env)]) :
    SndI T X W tg (.Call (.Name "range" p) [a, b] [] pos) (iRng2 ca) := by
  refine PI.imp (pi_range2 hg hm ha hs hs2) fun σ H R hq => ?_
  obtain ⟨O, ρ, F, s, h, k, x, rp, rs, e, pk, px⟩ := hq
  refine ⟨O, ρ, F, s, h, _, _, rp, rs, e, fun ds h1 hn e1 ρ1 F1 H1 vs l1 r1 rvs => ?_, px⟩
  cases rvs with
  | nil => cases e1
  | cons ra rt => cases rt with
    | nil => cases e1
    | cons rb rt => cases rt with
      | cons _ _ => exact absurd hn (by simp)
      | nil =>
        obtain ⟨i, ei, e2⟩ := dInt_some (show dInt _ _ = some O from e1)
        obtain ⟨j, ej, e2⟩ := dInt_some e2
        subst ei ej
        obtain ⟨b, e3⟩ := rngK_some e2
        exact ⟨i, j, by rw [ra.int_inv, rb.int_inv], b, pk _ h1 e3 ρ1 F1 H1 _ l1 r1 srcOk_rng⟩
end SW
end
section
/-! List comprehensions. -/
namespace SW
open PySem PySem.Spec PyProof.Rows L2 SlX
variable {T : Tab} {O : Out} {ρ ρ1 ρ' : List Addr} {F F1 F' : Fz} {H H1 H' : Hp} {h h1 : CH} {s : SW.St} {σ : L2.St} {k : K} {x : KX} {Q : VK} {W : WX} {X : Cx}
theorem RV.chg (hf : ∀ x o, F x → H x = some o → H' x = some o) (fz : ∀ x, F x → F' x) {d v} : RV T ρ F H d v → RV T ρ F' H' d v
  | .imm r => .imm (r.mono hf fz)
  | .ref e => .ref e
theorem RVl.chg (hf : ∀ x o, F x → H x = some o → H' x = some o) (fz : ∀ x, F x → F' x) {l vs} (r : RVl T ρ F H l vs) : RVl T ρ F' H' l vs := Paired.mapP r fun _ _ q => q.chg hf fz
theorem RSl.chg (hf : ∀ x o, F x → H x = some o → H' x = some o) (fz : ∀ x, F x → F' x) {s σ} (r : RSl T ρ F H s σ) : RSl T ρ F' H' s σ := ⟨r.1, fun i d e => let ⟨v, e2, q⟩ := r.2 i d e; ⟨v, e2, q.chg hf fz⟩⟩
theorem Rep.chg (r : Rep T ρ F H h) (hr : ∀ x ∈ ρ, H' x = H x) (hf : ∀ x o, F x → H x = some o → H' x = some o) (fz : ∀ x, F x → F' x) (fn : ∀ x ∈ ρ, F' x → F x) (ft : ∀ x, F' x → H' x ≠ none) : Rep T ρ F' H' h := by
  refine ⟨r.nod, fun x hx => by rw [hr x hx]; exact r.trk x hx, fun i x mo ex em u f => r.nf i x mo ex em u (fn x (List.mem_of_getElem? ex) f), ft, fun i mo e => ?_, r.len, r.dd⟩
  obtain ⟨x, ex, m⟩ := r.cells i mo e
  have hx : x ∈ ρ := List.mem_of_getElem? ex
  refine ⟨x, ex, ?_⟩
  cases mo with
  | dead => trivial
  | gone => trivial
  | lst n l => obtain ⟨b1, b2, vs, e1, q⟩ := m; exact ⟨b1, b2, vs, by rw [hr x hx]; exact e1, q.chg hf fz⟩
  | dic b l => exact ⟨fun z => fz x (m.1 z), m.2.mono hf fz (fun q => q) (hr x hx)⟩
  | dice => obtain ⟨p, q, z, e1⟩ := m; exact ⟨p, q, z, by rw [hr x hx]; exact e1⟩
  | obj c l =>
    obtain ⟨dx, vs, ed, nd, sl, ln, q⟩ := m
    have hd : dx ∈ ρ := List.mem_of_getElem? ed
    refine ⟨dx, vs, ed, nd, ?_, ln, fun j d ej => let ⟨v, ev, rv⟩ := q j d ej; ⟨v, ev, rv.mono hf fz⟩⟩
    rcases sl with ⟨s1, s2⟩ | ⟨s1, s2⟩
    · exact .inl ⟨by rw [hr x hx]; exact s1, s2⟩
    · exact .inr ⟨by rw [hr x hx]; exact s1, by rw [hr dx hd]; exact s2⟩
/-- a thing of no one, at D, rewritten -/
theorem Rep.side {D : Addr} {o : HO} (r : Rep T ρ F H h) (n1 : D ∉ ρ) (n2 : ¬ F D) : Rep T ρ F (upd H D o) h :=
  r.chg (fun x hx => upd_ne fun z => n1 (z ▸ hx)) (fun x u f e => by rw [upd_ne (show x ≠ D from fun z => n2 (z ▸ f))]; exact e) (fun _ f => f) (fun _ _ f => f) fun x f z => r.ft x f (upd_none z)
theorem side_f {D : Addr} {o : HO} (n2 : ¬ F D) : ∀ x u, F x → H x = some u → upd H D o x = some u := fun x u f e => by rw [upd_ne (show x ≠ D from fun z => n2 (z ▸ f))]; exact e
/-- it is frozen -/
theorem Rep.frz {D : Addr} (r : Rep T ρ F H h) (n1 : D ∉ ρ) (hd : H D ≠ none) : Rep T ρ (fzA F D) H h :=
  r.chg (fun _ _ => rfl) (fun _ _ _ e => e) (fun _ f => .inl f) (fun x hx f => f.elim id fun z => absurd (z ▸ hx) n1) fun x f => f.elim (r.ft x) fun z => by rw [z]; exact hd
/-- it becomes a cell -/
theorem Rep.adopt {D : Addr} {n : Nat} {l : List DV} {vs : List V} (r : Rep T ρ F H h) (n1 : D ∉ ρ) (n2 : ¬ F D) (hd : H D = some (.lst vs)) (h1 : l.length ≤ n) (h2 : n ≤ mx) (rv : RVl T ρ F H l vs) : Rep T (ρ ++ [D]) F H (h ++ [.lst n l]) := by
  have hl := r.len
  have at' : ∀ {i : Nat} {x : Addr}, ρ[i]? = some x → (ρ ++ [D])[i]? = some x := fun {i x} e => by
    rw [List.getElem?_append_left (by
      by_cases z : i < ρ.length
      · exact z
      · rw [List.getElem?_eq_none (by omega)] at e; cases e)]
    exact e
  have up : ∀ {d v}, RV T ρ F H d v → RV T (ρ ++ [D]) F H d v := fun q => match q with
    | .imm r => .imm r
    | .ref e => .ref (at' e)
  refine ⟨?_, fun x hx => ?_, fun i x mo ex em u => ?_, r.ft, fun i mo e => ?_, by simp [hl], fun i c l e => ?_⟩
  · rw [List.nodup_append]
    refine ⟨r.nod, by simp, fun x hx y hy => ?_⟩
    rw [List.mem_singleton.mp hy]
    exact fun e => n1 (e ▸ hx)
  · rcases List.mem_append.mp hx with hx | hx
    · exact r.trk x hx
    · rw [List.mem_singleton.mp hx, hd]; simp
  · by_cases hi : i < h.length
    · rw [List.getElem?_append_left hi] at em
      rw [List.getElem?_append_left (by omega)] at ex
      exact r.nf i x mo ex em u
    · obtain ⟨q1, q2⟩ := List.getElem?_eq_some_iff.mp ex
      rw [List.getElem_append_right (by omega)] at q2
      have : x = D := by simpa using q2.symm
      rw [this]
      exact n2
  · by_cases hi : i < h.length
    · rw [List.getElem?_append_left hi] at e
      obtain ⟨x, ex, m⟩ := r.cells i mo e
      refine ⟨x, at' ex, ?_⟩
      cases mo with
      | dead => trivial
      | gone => trivial
      | lst n l => obtain ⟨b1, b2, vs, e1, q⟩ := m; exact ⟨b1, b2, vs, e1, Paired.mapP q fun _ _ z => up z⟩
      | dic b l => exact ⟨m.1, m.2.mono (fun _ _ _ e => e) (fun _ f => f) at' rfl⟩
      | dice => exact m
      | obj c l =>
        obtain ⟨dx, vs, ed, m⟩ := m
        exact ⟨dx, vs, at' ed, m⟩
    · have hi2 : i < (h ++ [MO.lst n l]).length := by
        by_cases z : i < (h ++ [MO.lst n l]).length
        · exact z
        · rw [List.getElem?_eq_none (by omega)] at e; cases e
      have : i = h.length := by simp at hi2; omega
      subst this
      rw [List.getElem?_append_right (Nat.le_refl _), Nat.sub_self] at e
      have e' : MO.lst n l = mo := Option.some.inj e
      subst e'
      exact ⟨D, by rw [hl, List.getElem?_append_right (Nat.le_refl _), Nat.sub_self]; rfl, h1, h2, vs, hd, Paired.mapP rv fun _ _ z => up z⟩
  · have hi : i < h.length := by
      by_cases z : i < h.length
      · exact z
      · rw [List.getElem?_append_right (by omega)] at e
        by_cases q : i - h.length = 0
        · rw [q] at e
          exact absurd (Option.some.inj e) (by simp)
        · rw [List.getElem?_eq_none (by simp; omega)] at e; cases e
    rw [List.getElem?_append_left hi] at e
    have q := r.dd i c l e
    have hi2 : i + 1 < h.length := by
      by_cases z : i + 1 < h.length
      · exact z
      · rw [List.getElem?_eq_none (by omega)] at q; cases q
    rw [List.getElem?_append_left hi2]
    exact q
/-- Le from a start where D was free -/
theorem Le.side {D : Addr} {o : HO} (l : Le ρ F H ρ1 F1 H1) (hD : H D = none) : Le ρ F H ρ1 F1 (upd H1 D o) :=
  ⟨l.pre, fun a u e n => by rw [upd_ne (ne_of_none e hD)]; exact l.frm a u e n, fun a h z => l.trk a h (upd_none z), l.fz, l.fn, fun a u f e => by rw [upd_ne (ne_of_none e hD)]; exact l.fr a u f e⟩
theorem Le.frz {D : Addr} (l : Le ρ F H ρ1 F1 H1) (hD : H D = none) : Le ρ F H ρ1 (fzA F1 D) H1 :=
  ⟨l.pre, l.frm, l.trk, fun a f => .inl (l.fz a f), fun a f => f.elim (l.fn a) fun z => .inr (.inl (by rw [z]; exact hD)), l.fr⟩
theorem Le.adopt {D : Addr} (l : Le ρ F H ρ1 F1 H1) (hD : H D = none) : Le ρ F H (ρ1 ++ [D]) F1 H1 := by
  obtain ⟨t, e, n⟩ := l.pre
  refine ⟨⟨t ++ [D], by rw [e, List.append_assoc], fun a ha => ?_⟩, l.frm, l.trk, l.fz, l.fn, l.fr⟩
  rcases List.mem_append.mp ha with h | h
  · exact n a h
  · rw [List.mem_singleton.mp h]; exact hD
/-- what no one owns stays so -/
structure Own0 (D : Addr) (ρ : List Addr) (F : Fz) (H : Hp) (vs : List V) : Prop where
  n1 : D ∉ ρ
  n2 : ¬ F D
  at' : H D = some (.lst vs)
theorem Own0.le {D : Addr} {vs : List V} (a : Own0 D ρ F H vs) (l : Le ρ F H ρ1 F1 H1) : Own0 D ρ1 F1 H1 vs := by
  obtain ⟨t, e, n⟩ := l.pre
  refine ⟨fun hm => ?_, fun f => ?_, l.frm D _ a.at' a.n1⟩
  · rw [e] at hm
    rcases List.mem_append.mp hm with h | h
    · exact a.n1 h
    · have := a.at'
      rw [n D h] at this
      cases this
  · rcases l.fn D f with h | h | h
    · exact a.n2 h
    · have := a.at'
      rw [h] at this
      cases this
    · exact a.n1 h
/-- the new list is done -/
theorem lc_end {mk : Bool} {l : List DV} {vs : List V} {D : Addr} {ρ0 : List Addr} {F0 : Fz} {H0 : Hp} (e : mkL mk l h k = some O) (pk : PostK T O ρ0 F0 H0 k Q) (l0 : Le ρ0 F0 H0 ρ F H) (hD : H0 D = none) (rp : Rep T ρ F H h) (o : Own0 D ρ F H vs) (rv : RVl T ρ F H l vs) (hn : l.length ≤ mx) : Q (.ref D) H := by
  cases mk with
  | false =>
    obtain ⟨n1, e2⟩ := nrs_some (show nrs l _ = some O from e)
    exact pk _ h e2 ρ (fzA F D) H (.ref D) (l0.frz hD) (rp.frz o.n1 (by rw [o.at']; simp)) (.imm (.lst fzA_self o.at' ((rv.imm n1).mono (fun _ _ _ e => e) fun _ f => .inl f) hn))
  | true =>
    have e2 := oCell_some (show oCell l h k = some O from e)
    exact pk _ _ e2 (ρ ++ [D]) F H (.ref D) (l0.adopt hD) (rp.adopt o.n1 o.n2 o.at' (Nat.le_refl _) hn rv) (.ref (by rw [rp.len, List.getElem?_append_right (Nat.le_refl _), Nat.sub_self]; rfl))
/-! ### slots that are wiped -/
theorem wipe_get {σ : L2.St} {j : Nat} : ∀ {vs : List Nat}, (wipe σ vs)[j]? = if j ∈ vs then (if j < σ.length then some none else none) else σ[j]?
  | [] => by simp [wipe]
  | v :: vs => by
    unfold wipe
    by_cases q : v = j
    · subst q
      rw [if_pos (by simp)]
      by_cases z : v < σ.length
      · rw [if_pos z, List.getElem?_set_self (by rw [wipe_length]; exact z)]
      · rw [if_neg z, List.getElem?_eq_none (by rw [List.length_set, wipe_length]; omega)]
    · rw [List.getElem?_set_ne q, wipe_get (vs := vs)]
      have : (j ∈ v :: vs) = (j ∈ vs) := by simp [Ne.symm q]
      simp only [this]
theorem wipe_set {σ : L2.St} {i : Nat} {o : Option V} {vs : List Nat} (h : i ∈ vs) : wipe (σ.set i o) vs = wipe σ vs := by
  apply List.ext_getElem?
  intro j
  rw [wipe_get, wipe_get, List.length_set]
  by_cases z : j ∈ vs
  · rw [if_pos z, if_pos z]
  · rw [if_neg z, if_neg z, List.getElem?_set_ne (fun (q : i = j) => z (q ▸ h))]
theorem wipe_wipe {σ : L2.St} {vs : List Nat} : wipe (wipe σ vs) vs = wipe σ vs := by
  apply List.ext_getElem?
  intro j
  rw [wipe_get, wipe_length, wipe_get]
  by_cases z : j ∈ vs
  · rw [if_pos z, if_pos z]
  · rw [if_neg z]
theorem RSl.setN {i : Nat} (rs : RSl T ρ F H s σ) : RSl T ρ F H (s.set i none) (σ.set i none) := by
  refine ⟨by rw [List.length_set, List.length_set]; exact rs.1, fun j e hj => ?_⟩
  by_cases q : i = j
  · subst q
    by_cases z : i < s.length
    · rw [List.getElem?_set_self z] at hj; cases hj
    · rw [List.getElem?_eq_none (by rw [List.length_set]; omega)] at hj; cases hj
  · rw [List.getElem?_set_ne q] at hj
    obtain ⟨u, hu, r⟩ := rs.2 j e hj
    exact ⟨u, by rw [List.getElem?_set_ne q]; exact hu, r⟩
noncomputable section
def wipeK (vs : List Nat) (s : SW.St) (k : SW.St → A) : A := @List.rec Nat (fun _ => (SW.St → A) → A) (fun k => k s) (fun v _ ih k => ih fun s => putK s v none k) vs k
end
theorem wipeK_some : ∀ {vs : List Nat} {k : SW.St → A}, wipeK vs s k = some O → RSl T ρ F H s σ → ∃ s0, RSl T ρ F H s0 (wipe σ vs) ∧ k s0 = some O
  | [], k, e, rs => ⟨s, rs, e⟩
  | v :: vs, k, e, rs => by
    obtain ⟨s1, r1, e1⟩ := wipeK_some (vs := vs) (show wipeK vs s (fun s => putK s v none k) = some O from e) rs
    obtain ⟨_, e2⟩ := putK_some e1
    exact ⟨_, r1.setN, e2⟩
/-- a block's targets: names of its own -/
def RdGv (T : Tab) (vs : List Nat) (g : GCode) : TG := fun v σ H Q => ∃ (O : Out) (ρ : List Addr) (F : Fz) (d : DV) (s : SW.St) (h : CH) (n : KN) (x : SW.St → KX),
  Rep T ρ F H h ∧ RSl T ρ F H s σ ∧ RV T ρ F H d v ∧ g d s h n x = some O ∧ ∀ s' h', n s' h' = some O → ∀ ρ' F' H' σ', Le ρ F H ρ' F' H' → Rep T ρ' F' H' h' → RSl T ρ' F' H' s' σ' → wipe σ' vs = wipe σ vs → Q σ' H'
def RdGvs (T : Tab) (vs : List Nat) (g : GsCode) : TGs := fun us σ H Q => ∃ (O : Out) (ρ : List Addr) (F : Fz) (ds : List DV) (s : SW.St) (h : CH) (n : KN) (x : SW.St → KX),
  Rep T ρ F H h ∧ RSl T ρ F H s σ ∧ RVl T ρ F H ds us ∧ g ds s h n x = some O ∧ ∀ s' h', n s' h' = some O → ∀ ρ' F' H' σ', Le ρ F H ρ' F' H' → Rep T ρ' F' H' h' → RSl T ρ' F' H' s' σ' → wipe σ' vs = wipe σ vs → Q σ' H'
def SndGv (T : Tab) (X : Cx) (vs : List Nat) (e : Expr) (g : GCode) : Prop := PG X e (RdGv T vs g)
def SndGvs (T : Tab) (X : Cx) (vs : List Nat) (e : List Expr) (g : GsCode) : Prop := PGs X e (RdGvs T vs g)
theorem sndgv_var {vs : List Nat} {i : Nat} {nm : Str} {pos : Pos} (hm : i ∈ vs) (hN : X.N.Nodup) (hi : X.N[i]? = some nm) (hx : Loc X.env.scope nm) (hf : X.fn nm = true ∨ X.env.scope.names.lookup nm = some .local) : SndGv T X vs (.Name nm pos) (gVar i) := by
  refine PG.imp (pg_name hN hi hx hf) fun v σ H Q hq => ?_
  obtain ⟨O, ρ, F, d, s, h, n, x, rp, rs, rv, e, pn⟩ := hq
  obtain ⟨_, e⟩ := putK_some e
  exact pn _ h e ρ F H _ .refl rp (rs.set rv) (wipe_set hm)
theorem sndgvs_nil {vs : List Nat} : SndGvs T X vs [] gNils := by
  refine PGs.imp pgs_nil fun v σ H Q hq => ?_
  obtain ⟨O, ρ, F, d, s, h, n, x, rp, rs, rv, e, pn⟩ := hq
  cases rv with
  | nil => exact ⟨rfl, pn s h e ρ F H σ .refl rp rs rfl⟩
  | cons _ _ => cases e
theorem sndgvs_cons {vs : List Nat} {e : Expr} {es : List Expr} {g : GCode} {r : GsCode} (h1 : SndGv T X vs e g) (h2 : SndGvs T X vs es r) (hs : (assignEach (e :: es) X.env).map (·.2) = assign e X.env :: (assignEach es X.env).map (·.2)) : SndGvs T X vs (e :: es) (gConss g r) := by
  refine PGs.imp (pgs_cons h1 h2 hs) fun v σ H Q hq => ?_
  obtain ⟨O, ρ, F, ds, s, h, n, x, rp, rs, rv, e, pn⟩ := hq
  cases rv with
  | nil => cases e
  | @cons d v l us rd rt =>
    refine ⟨v, us, rfl, O, ρ, F, d, s, h, _, x, rp, rs, rd, e, fun s1 h1 e1 ρ1 F1 H1 σ1 l1 r1 rs1 w1 => ?_⟩
    exact ⟨O, ρ1, F1, l, s1, h1, n, x, r1, rs1, RVl.le l1 rt, e1, fun s2 h2 e2 ρ2 F2 H2 σ2 l2 r2 rs2 w2 => pn s2 h2 e2 ρ2 F2 H2 σ2 (l1.trans l2) r2 rs2 (w2.trans w1)⟩
theorem sndgv_tup {vs : List Nat} {es : List Expr} {kk m : Nat} {pos : Pos} {g : GsCode} (hc : X.calm = true) (h : SndGvs T X vs es g) (hl : GLen g m)
    (hn : (assignEach es X.env).length = m) (hst : (assignEach es X.env).findIdx? (·.1) = none) : SndGv T X vs (.Tuple es kk pos) (gTups g) := by
  refine PG.imp (pg_tup hc h hn hst) fun v σ H Q hq => ?_
  obtain ⟨O, ρ, F, d, s, h, n, x, rp, rs, rv, e, pn⟩ := hq
  obtain ⟨l, ed, e⟩ := dTup_some e
  subst ed
  obtain ⟨a, us, ex, f, e3, q, nn⟩ := rv.tup_inv
  exact ⟨a, us, ex, .inl (.inl e3), by rw [← q.length]; exact hl.len e, O, ρ, F, l, s, h, n, x, rp, rs, q.rvl, e, pn⟩
/-! ### tests of a clause -/
def SndTs (T : Tab) (X : Cx) (W : WX) (ifs : List Expr) (c : TCode) : Prop := PTs X ifs (RdT T W c)
theorem PTs.imp {e : List Expr} {t t' : TT} (p : PTs X e t) (i : ∀ σ H Q, t' σ H Q → t σ H Q) : PTs X e t' := ⟨fun pins s σ H Q I h => p.run pins s σ H Q I (i _ _ _ h)⟩
noncomputable section
def tYesC : TCode := fun _ h kt _ _ => kt h
end
theorem sndts_nil : SndTs T X W [] tYesC := by
  refine PTs.imp pts_nil fun σ H Q hq => ?_
  obtain ⟨O, ρ, F, s, h, kt, kf, x, rp, rs, e, pk, px⟩ := hq
  exact pk true h e ρ F H .refl rp
theorem sndts_one {c : Expr} {t : TCode} (h : SndT T X W c t) : SndTs T X W [c] t := pts_one h
/-! ### the loop -/
/-- nothing leaves a block -/
abbrev W0 : WX := fun _ _ _ _ => False
noncomputable section
def noXS : SW.St → KX := fun _ => noX
abbrev KAcc := List DV → CH → A
def lcS (g : GCode) (t : TCode) (e : Code) (ih : Nat → Src → SW.St → CH → List DV → KAcc → A) (j : Nat) (c : Src) (s0 : SW.St) (h : CH) (acc : List DV) (k : KAcc) : A :=
  nxt c j h (k acc h) fun d c => forceN (Nat.succ j) fun j => g d s0 h (fun s h => t s h (fun h => e s h (fun y h => ih j c s0 h (y :: acc) k) noX) (fun h => ih j c s0 h acc k) noX) noXS
def lcL (g : GCode) (t : TCode) (e : Code) (f : Nat) : Nat → Src → SW.St → CH → List DV → KAcc → A := @Nat.rec (fun _ => Nat → Src → SW.St → CH → List DV → KAcc → A) (fun _ _ _ _ _ _ => none) (fun _ ih => lcS g t e ih) f
def eLc (mk : Bool) (i : ICode) (vs : List Nat) (g : GCode) (t : TCode) (e : Code) : Code := fun s h k x => i s h (fun c h => wipeK vs s fun s0 => lcL g t e 1000000 0 c s0 h [] fun acc h => revK acc [] fun l => mkL mk l h k) x
end
theorem lc_of {mk : Bool} {ci : ICode} {vs : List Nat} {g : GCode} {t : TCode} {ce : Code} (hq : RdE T W (eLc mk ci vs g t ce) σ H Q) : tLc (RdI T W ci) (RdGv T vs g) (RdT T W0 t) (RdE T W0 ce) vs σ H Q := by
  obtain ⟨O, ρ, F, s, h, k, x, rp, rs, e, pk, px⟩ := hq
  refine ⟨O, ρ, F, s, h, _, x, rp, rs, e, fun src h1 e1 ρ1 F1 H1 J l1 r1 sr D hD => ?_, px⟩
  obtain ⟨s0, rs0, e2⟩ := wipeK_some e1 (rs.le l1)
  obtain ⟨R, R0, at'⟩ := sr.has
  have n1 := r1.fresh hD
  refine ⟨fun i m H => ∃ (ρ : List Addr) (F : Fz) (h : CH) (c : Src) (acc : List DV) (us : List V), R i c ∧ Le ρ1 F1 H1 ρ F H ∧ Rep T ρ F H h ∧ Own0 D ρ F H us ∧ RVl T ρ F H acc.reverse us ∧ acc.length + m ≤ 1000000 ∧ RSl T ρ F H s0 (wipe σ vs) ∧ lcL g t ce m i c s0 h acc (fun acc h => revK acc [] fun l => mkL mk l h k) = some O,
    ⟨1000000, ρ1, F1, h1, src, [], [], R0, Le.side .refl hD, r1.side n1.1 n1.2, ⟨n1.1, n1.2, upd_same⟩, .nil, Nat.le_refl _, rs0.chg (side_f n1.2) (fun _ f => f), e2⟩, fun i m H hw => ?_⟩
  obtain ⟨ρ2, F2, h2, c, acc, us, Rc, l2, rp2, ow, rv, bd, rs2, e3⟩ := hw
  cases m with
  | zero => cases e3
  | succ m =>
    have e3 : lcS g t ce (lcL g t ce m) i c s0 h2 acc (fun acc h => revK acc [] fun l => mkL mk l h k) = some O := e3
    unfold lcS at e3
    rcases at' i c ρ2 F2 H h2 O _ _ Rc l2 rp2 e3 with ⟨e4, st⟩ | ⟨gg, d, c', e4, Rc', yl⟩
    · refine .inl ⟨st, ?_⟩
      have e4 : revK acc [] (fun l => mkL mk l h2 k) = some O := e4
      rw [revK_eq, List.append_nil] at e4
      exact lc_end e4 (pk.le l1) l2 hD rp2 ow rv (by rw [List.length_reverse]; show acc.length ≤ 1000000; omega)
    · rw [forceN_eq] at e4
      refine .inr ⟨gg, _, fun H' w => ⟨m, Nat.lt_succ_self m, w⟩, fun v H' y => ?_⟩
      obtain ⟨F', l', rp', rv'⟩ := yl v H' y
      refine ⟨O, ρ2, F', d, s0, h2, _, _, rp', rs2.le l', rv', e4, fun s3 h3 e5 ρ3 F3 H3 σ3 l3 r3 rs3 w3 => ⟨w3.trans wipe_wipe, ?_⟩⟩
      refine ⟨O, ρ3, F3, s3, h3, _, _, _, r3, rs3, e5, fun b h4 e6 ρ4 F4 H4 l4 r4 => ?_, PostX.no⟩
      have la := (l'.trans l3).trans l4
      cases b with
      | true =>
        show if true = true then _ else _
        rw [if_pos rfl]
        refine ⟨O, ρ4, F4, s3, h4, _, _, r4, rs3.le l4, e6, fun d5 h5 e7 ρ5 F5 H5 v5 l5 r5 rv5 => ?_, PostX.no⟩
        have lb := la.trans l5
        have ow5 := ow.le lb
        have rvl5 := RVl.le lb rv
        have hlen : us.length = acc.length := by rw [← rv.len, List.length_reverse]
        refine ⟨us, ow5.at', ?_, ρ5, F5, h5, c', d5 :: acc, us ++ [v5], Rc', Le.side (l2.trans lb) hD, r5.side ow5.n1 ow5.n2, ⟨ow5.n1, ow5.n2, upd_same⟩, ?_, ?_, (rs2.le lb).chg (side_f ow5.n2) (fun _ f => f), e7⟩
        · rw [hlen]
          exact Nat.lt_of_lt_of_le (show acc.length < 1000000 by omega) (line_of (Nat.le_refl _))
        · rw [List.reverse_cons]
          exact RVl.chg (side_f ow5.n2) (fun _ f => f) (rvl5.app (.cons rv5 .nil))
        · show acc.length + 1 + m ≤ 1000000
          omega
      | false =>
        show if false = true then _ else _
        rw [if_neg Bool.false_ne_true]
        exact ⟨ρ4, F4, h4, c', acc, us, Rc', l2.trans la, r4, ow.le la, RVl.le la rv, by omega, rs2.le la, e6⟩
section
variable {elt tg iter : Expr} {ifs : List Expr} {scope : Scope} {own : List (Str × Nat)} {pos spos : Pos} {ci : ICode} {g : GCode} {t : TCode} {ce : Code} {mk : Bool}
theorem snd_lc (hc : X.calm = true) (hN : X.N.Nodup) (hi : SndI T X W tg iter ci) (ok : BlkOk X.N X.env.scope scope own)
    (hg : ∀ (s : Shared) (H : Hp) (C : Addr) (cl : List (Str × Addr)) (fp : List Addr), SndGv T (X.blk s H scope (compEnvC scope cl C X.env) fp) (own.map (·.2)) tg g)
    (ht : ∀ (s : Shared) (H : Hp) (C : Addr) (cl : List (Str × Addr)) (fp : List Addr), SndTs T (X.blk s H scope (compEnvC scope cl C X.env) fp) W0 ifs t)
    (he : ∀ (s : Shared) (H : Hp) (C : Addr) (cl : List (Str × Addr)) (fp : List Addr), Snd T (X.blk s H scope (compEnvC scope cl C X.env) fp) W0 elt ce) (hs : ∀ x, foldedSetIterable iter X.env x = pure x) :
    Snd T X W (.ListComp elt [⟨tg, iter, ifs, 0⟩] scope pos) (eLc mk ci (own.map (·.2)) g t ce) :=
  PE.imp (pe_lc hc hN hi ok hg ht he hs) fun _ _ _ hq => lc_of hq
theorem snds_setLc {i : Nat} {y : Str} {py : Pos} (hc : X.calm = true) (hN : X.N.Nodup) (hy : X.N[i]? = some y) (hyl : X.env.scope.names.lookup y = some .local)
    (hsw : swapsWith (.ListComp elt [⟨tg, iter, ifs, 0⟩] scope pos) (some (.Name y py)) spos.line X.env = pure true) (hi : SndI T X W tg iter ci) (ok : BlkOk X.N X.env.scope scope own)
    (hg : ∀ (s : Shared) (H : Hp) (C : Addr) (cl : List (Str × Addr)) (fp : List Addr), SndGv T (X.blk s H scope (compEnvC scope cl C X.env) fp) (own.map (·.2)) tg g)
    (ht : ∀ (s : Shared) (H : Hp) (C : Addr) (cl : List (Str × Addr)) (fp : List Addr), SndTs T (X.blk s H scope (compEnvC scope cl C X.env) fp) W0 ifs t)
    (he : ∀ (s : Shared) (H : Hp) (C : Addr) (cl : List (Str × Addr)) (fp : List Addr), Snd T (X.blk s H scope (compEnvC scope cl C X.env) fp) W0 elt ce) (hs : ∀ x, foldedSetIterable iter X.env x = pure x) :
    SndS T X W (.Assign [.Name y py] (.ListComp elt [⟨tg, iter, ifs, 0⟩] scope pos) spos) (sAsg (eLc mk ci (own.map (·.2)) g t ce) (gVar i)) := by
  refine PS.imp (ps_setLc hc hN hy hyl hsw hi ok hg ht he hs) fun D σ H hq => ?_
  obtain ⟨O, ρ, F, s, h, n, ks, rp, rs, e, p⟩ := hq
  refine lc_of (RdE.sq rp rs p e fun d h1 ρ1 F1 H1 v e1 r1 rv rs1 p1 => ?_)
  obtain ⟨_, e2⟩ := putK_some e1
  exact p1.nx _ h1 e2 ρ1 F1 H1 _ .refl r1 (rs1.set rv)
end
end SW
end
section
/-! Defs and their calls. -/
namespace SW
open PySem PySem.Spec PyProof.Rows L2 SlX
variable {T : Tab} {O : Out} {ρ ρ1 ρ' : List Addr} {F F1 F' : Fz} {H H1 H' : Hp} {h h1 : CH} {s : SW.St} {σ : L2.St} {k : K} {x : KX} {Q : VK} {W : WX} {X : Cx} {E : XK}
/-- a def's promise, by its code -/
def spOf (T : Tab) (n : Nat) (c : FCode) : Sp := fun vs H Q E => vs.length = n ∧ ∃ (O : Out) (ρ : List Addr) (F : Fz) (ds : List DV) (h : CH) (k : K) (x : KX),
  Rep T ρ F H h ∧ RVl T ρ F H ds vs ∧ c ds h k x = some O ∧ PostK T O ρ F H k Q ∧ PostX T O ρ F H x E
noncomputable section
/-- the slots at the entry -/
def mapS (ds : List DV) (z : SW.St) (k : SW.St → A) : A := @List.rec DV (fun _ => (SW.St → A) → A) (fun k => k z) (fun d _ ih k => ih fun s => k (some d :: s)) ds k
def fnC (z : SW.St) (b : SCode) : FCode := fun ds h k x => mapS ds z fun s => b s h (fun _ h => k .non h) { rt := k, bk := none3, ct := none3, xc := fun _ => x }
end
theorem mapS_eq (z : SW.St) : ∀ (ds : List DV) (k : SW.St → A), mapS ds z k = k (ds.map some ++ z)
  | [], _ => rfl
  | d :: ds, k => by
    show mapS ds z (fun s => k (some d :: s)) = _
    rw [mapS_eq z ds]; rfl
theorem start_rsl {N : List Str} {ds : List DV} {vs : List V} {m : Nat} (r : RVl T ρ F H ds vs) (hm : N.length - vs.length = m) : RSl T ρ F H (ds.map some ++ List.replicate m none) (L2.start N vs) := by
  have hl := r.len
  refine ⟨by unfold L2.start; simp [hl, hm], fun i d e => ?_⟩
  by_cases hi : i < ds.length
  · rw [List.getElem?_append_left (by simpa using hi), List.getElem?_map] at e
    cases q : ds[i]? with
    | none => rw [q] at e; cases e
    | some d' =>
      rw [q] at e
      have : d' = d := by simpa using e
      subst this
      obtain ⟨v, hv, rv⟩ := r.at q
      refine ⟨v, ?_, rv⟩
      unfold L2.start
      rw [List.getElem?_append_left (by rw [List.length_map, ← hl]; exact hi), List.getElem?_map, hv]
      rfl
  · rw [List.getElem?_append_right (by simpa using hi), List.getElem?_replicate] at e
    split at e <;> cases e
/-- a def's body, from the entry -/
theorem body_of {N : List Str} {b : SCode} {n m : Nat} {vs : List V} (hsp : spOf T n (fnC (List.replicate m none) b) vs H Q E) (hm : N.length - n = m) :
    RdS T (fun cls d _ H => E cls d H) b { nx := fun _ H' => Q .non H', rt := Q } (L2.start N vs) H := by
  obtain ⟨hn, O, ρ, F, ds, h, k, x, rp, rv, e, pk, px⟩ := hsp
  unfold fnC at e
  rw [mapS_eq] at e
  exact ⟨O, ρ, F, _, h, _, _, rp, start_rsl rv (by rw [hn]; exact hm), e, ⟨fun s h' e1 ρ1 F1 H1 σ1 l1 r1 rs1 => pk .non h' e1 ρ1 F1 H1 .non l1 r1 (.imm .non), pk, PostN.no, PostN.no, fun s σ ρ1 F1 H1 l r => px.le l⟩⟩
/-- what a body of a def may lean on -/
structure InFn (X : Cx) (P : Program) (w : World) (K : PySem.W.Frag) (mg : Str → Option Value) (base : Heap) (N : List Str) (sc : Scope) (k : Nat) (E : XK) : Prop where
  prog : X.prog = P
  w : X.w = w
  K : X.K = K
  mg : X.mg = mg
  base : X.base = base
  N : X.N = N
  sc : X.env.scope = sc
  fn : ∀ x, X.fn x = true
  calm : X.calm = true
  room : Room k X.A
  takes : Takes X (fun cls d _ H => E cls d H)
  passes : PassesOwn (model X.prog X.w) X.A X.env X.xe
theorem fn_sw {P : Program} {w : World} {K : PySem.W.Frag} {mg : Str → Option Value} {base : Heap} {nm qual : Str} {params : Arguments} {body : List Stmt} {scope : Scope} {dvs : List V} {kws : List (Str × V)} {f : Addr} {fd : FuncData} {N ps : List Str} {k n m : Nat} {b : SCode}
    (D : FunD K nm qual params body scope dvs kws f fd) (S : FnScope N ps scope) (hn : ps.length = n) (hm : N.length - n = m)
    (hb : ∀ (cdv : Value) (A : Around) (outer : List Env) (s : Shared) (H : Hp) (E : XK), let X := cxOf (L2.CX P w) P w K mg base N qual scope f cdv A outer s H E
      Room k X.A → L2.Takes X (fun cls d _ H => E cls d H) → PassesOwn (model P w) X.A X.env X.xe → SndSs T X (fun cls d _ H => E cls d H) body b) :
    FnOk P w K mg base (L2.CX P w) (k + 1) f fd ps (spOf T n (fnC (List.replicate m none) b)) :=
  D.ok S (fun vs H Q E h => h.1.trans hn.symm) fun cdv A outer s H vs Q E hr hsp =>
    ⟨_, hb cdv A outer s H E hr (L2.takes_of rfl rfl rfl rfl) (L2.passes_of rfl), body_of hsp hm⟩
/-! ### calls -/
noncomputable section
def eCall (c : FCode) (a : LCode) : Code := fun s h k x => a s h (fun ds h => c ds h k x) x
def kRet : K := fun d _ => bsel (nr d) (some (.ret d)) none
def kExc : KX := fun c l _ => nrs l (some (.exc c l))
def runP (o : A) (k : DV → A) (x : Nat → List DV → A) : A := @Option.rec Out (fun _ => A) none (fun o => @Out.rec (fun _ => A) (fun d => k d) (fun c l => x c l) o) o
/-- a def on a heap of its own -/
def pureF (c : FCode) : FCode := fun ds h k x => nrs ds (runP (c ds [] kRet kExc) (fun d => k d h) (fun i l => x i l h))
end
theorem Rep.nil (r : Rep T ρ F H h) : Rep T [] F H [] := ⟨List.nodup_nil, fun a m => (nomatch m), fun i a mo e => (by cases e), r.ft, fun i mo e => (by cases e), rfl, fun i c l e => (by cases e)⟩
theorem Le.up (l : Le [] F H ρ1 F1 H1) : Le ρ F H ρ F1 H1 := ⟨⟨[], by simp, by simp⟩, fun a o e _ => l.frm a o e (by simp), l.trk, l.fz, fun a f => (l.fn a f).imp id fun z => z.elim .inl (fun m => (nomatch m)), l.fr⟩
theorem Rep.up (r : Rep T ρ F H h) (l : Le [] F H ρ1 F1 H1) (ft : ∀ x, F1 x → H1 x ≠ none) : Rep T ρ F1 H1 h := r.same l.up (fun x hx => by
  cases q : H x with
  | none => exact absurd q (r.trk x hx)
  | some o => exact l.frm x o q (by simp)) ft fun a f => (l.fn a f).imp id fun z => z.elim id fun m => nomatch m
theorem runP_some {o : A} {k : DV → A} {x : Nat → List DV → A} (e : runP o k x = some O) : (∃ d, o = some (.ret d) ∧ k d = some O) ∨ ∃ c l, o = some (.exc c l) ∧ x c l = some O := by
  cases o with
  | none => cases e
  | some o => cases o with
    | ret d => exact .inl ⟨d, rfl, e⟩
    | exc c l => exact .inr ⟨c, l, rfl, e⟩
/-- a def that keeps to itself -/
theorem sp_pure {n : Nat} {c : FCode} {vs : List V} (hsp : spOf T n (pureF c) vs H Q E) : spOf T n c vs H Q E := by
  obtain ⟨hn, O, ρ, F, ds, h, k, x, rp, rv, e, pk, px⟩ := hsp
  obtain ⟨nd, e⟩ := nrs_some e
  have rv' := rv.imm nd
  rcases runP_some e with ⟨d0, e1, e2⟩ | ⟨c0, l0, e1, e2⟩
  · refine ⟨hn, .ret d0, [], F, ds, [], kRet, kExc, rp.nil, rv'.rvl, e1, fun d h' e3 ρ1 F1 H1 v l1 r1 r => ?_, fun ci fs h' e3 => ?_⟩
    · obtain ⟨nd, e4⟩ := bsel_some e3
      cases e4
      exact pk _ h e2 ρ F1 H1 v l1.up (rp.up l1 r1.ft) (.imm (r.imm_of nd))
    · obtain ⟨_, e4⟩ := nrs_some e3
      cases e4
  · refine ⟨hn, .exc c0 l0, [], F, ds, [], kRet, kExc, rp.nil, rv'.rvl, e1, fun d h' e3 => ?_, fun ci fs h' e3 ρ1 F1 H1 cls dx l1 r1 r => ?_⟩
    · obtain ⟨_, e4⟩ := bsel_some e3
      cases e4
    · obtain ⟨_, e4⟩ := nrs_some e3
      cases e4
      exact px _ _ h e2 ρ F1 H1 cls dx l1.up (rp.up l1 r1.ft) r
section
variable {CX : CXT} {kk n : Nat} {f : Addr} {fd : FuncData} {ps : List Str} {nm : Str} {p pos : Pos} {e : Expr} {es : List Expr} {c : FCode} {ca : LCode}
/-- f(e, ..), every parameter written -/
theorem snd_call (Fn : FnOk X.prog X.w X.K X.mg X.base CX kk f fd ps (spOf T n c)) (hr : Room kk X.A) (hg : Gl X nm) (hm : X.mg nm = some (.ref f)) (hk : PySem.W.keepIn X.K (.ref f) = true) (hb : Binds X.K fd ps []) (hx : ∀ σ, PassesAt CX X σ (WE W σ))
    (ha : SndA T X W (e :: es) ca) (hn : es.length + 1 = n) (hdb : (nm == ("__debug__" : Str)) = false) (he : starEach (e :: es) X.env = (false, eval e X.env) :: starEach es X.env) (hpl : (backTo pos (starEach es X.env)).any (·.1) = false) :
    Snd T X W (.Call (.Name nm p) (e :: es) [] pos) (eCall c ca) := by
  refine PE.imp (pe_callS (E := WE W) Fn hr hg hm hk hb hx ha hdb he hpl) fun σ H Q hq => ?_
  obtain ⟨O, ρ, F, s, h, k, x, rp, rs, e, pk, px⟩ := hq
  exact ⟨O, ρ, F, s, h, _, x, rp, rs, e, fun ds h1 hl e1 ρ1 F1 H1 vs l1 r1 rvs => ⟨by rw [← rvs.len, hl]; exact hn, O, ρ1, F1, ds, h1, k, x, r1, rvs, e1, pk.le l1, px.le l1⟩, px⟩
noncomputable def eCallD (c : FCode) (dl : List DV) (a : LCode) : Code := fun s h k x => a s h (fun ds h => appK ds dl fun ds => c ds h k x) x
/-- f(e, ..), the last parameters by their defaults -/
theorem snd_callD {dvs : List V} {dvals : List Value} {dl : List DV} (Fn : FnOk X.prog X.w X.K X.mg X.base CX kk f fd ps (spOf T n c)) (hr : Room kk X.A) (hg : Gl X nm) (hm : X.mg nm = some (.ref f)) (hk : PySem.W.keepIn X.K (.ref f) = true) (hb : Binds X.K fd ps dvals) (hd : Vals dvs dvals)
    (hdl : ∀ F H, RVs T F H dl dvs) (hx : ∀ σ, PassesAt CX X σ (WE W σ))
    (ha : SndA T X W (e :: es) ca) (hn : es.length + 1 + dl.length = n) (hdb : (nm == ("__debug__" : Str)) = false) (he : starEach (e :: es) X.env = (false, eval e X.env) :: starEach es X.env) (hpl : (backTo pos (starEach es X.env)).any (·.1) = false) :
    Snd T X W (.Call (.Name nm p) (e :: es) [] pos) (eCallD c dl ca) := by
  refine PE.imp (pe_callSD (E := WE W) Fn hr hg hm hk hb hd hx ha hdb he hpl) fun σ H Q hq => ?_
  obtain ⟨O, ρ, F, s, h, k, x, rp, rs, e, pk, px⟩ := hq
  refine ⟨O, ρ, F, s, h, _, x, rp, rs, e, fun ds h1 hl e1 ρ1 F1 H1 vs l1 r1 rvs => ?_, px⟩
  have e1 : appK ds dl _ = some O := e1
  rw [appK_eq] at e1
  have rd := hdl F1 H1
  refine ⟨?_, O, ρ1, F1, ds ++ dl, h1, k, x, r1, rvs.app rd.rvl, e1, pk.le l1, px.le l1⟩
  rw [List.length_append, ← rvs.len, ← rd.length, hl]
  exact hn
end
end SW
end
section
/-! Built-in functions. -/
namespace SW
open PySem PySem.Spec PyProof.Rows L2 SlX
variable {T : Tab} {O : Out} {ρ ρ1 ρ' : List Addr} {F F1 F' : Fz} {H H1 H' : Hp} {h h1 : CH} {s : SW.St} {σ : L2.St} {k : K} {x : KX} {Q : VK} {W : WX} {X : Cx} {E : XK}
noncomputable section
def arg1 (ds : List DV) (f : DV → A) : A := @List.rec DV (fun _ => A) none (fun d l _ => @List.rec DV (fun _ => A) (f d) (fun _ _ _ => none) l) ds
def arg2 (ds : List DV) (f : DV → DV → A) : A := @List.rec DV (fun _ => A) none (fun d l _ => @List.rec DV (fun _ => A) none (fun e l _ => @List.rec DV (fun _ => A) (f d e) (fun _ _ _ => none) l) l) ds
def kN (n : Nat) (h : CH) (k : K) : A := k (.int (.ofNat n)) h
def oLen : OpL := fun ds h k => arg1 ds fun d => @DV.rec (fun _ => A) (fun _ => Unit) none (fun _ => none) (fun _ => none) (fun s => lenK s 0 fun n => kN n h k) (fun l _ => lenK l 0 fun n => kN n h k) (fun l _ => lenK l 0 fun n => kN n h k) (fun _ _ _ => none) (fun _ _ => none)
  (fun i => nthK h i fun mo => mLst mo fun _ l => lenK l 0 fun n => kN n h k) () (fun _ _ _ _ => ()) d
def oInt : OpL := fun ds h k => arg1 ds fun d => @DV.rec (fun _ => A) (fun _ => Unit) none (fun b => k (.int (b2 b)) h) (fun i => k (.int i) h) (fun _ => none) (fun _ _ => none) (fun _ _ => none) (fun _ _ _ => none) (fun _ _ => none) (fun _ => none) () (fun _ _ _ _ => ()) d
def oAbs : OpL := fun ds h k => arg1 ds fun d => dInt d fun i => bsel (iLt i (.ofNat 0)) (kI (iNeg i) h k) (k (.int i) h)
def oMax2 : OpL := fun ds h k => arg2 ds fun d e => dInt d fun i => dInt e fun j => bsel (iLt i j) (k (.int j) h) (k (.int i) h)
def oMin2 : OpL := fun ds h k => arg2 ds fun d e => dInt d fun i => dInt e fun j => bsel (iLt j i) (k (.int j) h) (k (.int i) h)
/-- a sequence's items: a list (a cell too), a tuple -/
def dSeqI (d : DV) (h : CH) (f : List DV → A) : A := @DV.rec (fun _ => A) (fun _ => Unit) none (fun _ => none) (fun _ => none) (fun _ => none) (fun l _ => f l) (fun l _ => f l) (fun _ _ _ => none) (fun _ _ => none) (fun i => nthK h i fun mo => mLst mo fun _ l => f l) () (fun _ _ _ _ => ()) d
def sumK (l : List DV) (acc : Int) (k : Int → A) : A := @List.rec DV (fun _ => Int → A) (fun acc => k acc) (fun d _ ih acc => dInt d fun i => forceI (iAdd acc i) ih) l acc
def oSum : OpL := fun ds h k => arg1 ds fun d => dSeqI d h fun l => sumK l (.ofNat 0) fun i => k (.int i) h
/-- the least (a way to choose between two), not empty -/
def bestK (lt : Int → Int → Bool) (l : List DV) (k : Int → A) : A := @List.rec DV (fun _ => A) none (fun d l _ => dInt d fun i => @List.rec DV (fun _ => Int → A) (fun b => k b) (fun d _ ih b => dInt d fun i => bsel (lt i b) (ih i) (ih b)) l i) l
def oMin1 : OpL := fun ds h k => arg1 ds fun d => dList d h fun l => bestK iLt l fun i => k (.int i) h
def oMax1 : OpL := fun ds h k => arg1 ds fun d => dList d h fun l => bestK (fun i b => iLt b i) l fun i => k (.int i) h
def allK (l : List DV) (acc : Bool) (k : Bool → A) : A := @List.rec DV (fun _ => Bool → A) (fun acc => k acc) (fun d _ ih acc => dBl d fun b => bsel b (ih acc) (ih false)) l acc
def anyK (l : List DV) (acc : Bool) (k : Bool → A) : A := @List.rec DV (fun _ => Bool → A) (fun acc => k acc) (fun d _ ih acc => dBl d fun b => bsel b (ih true) (ih acc)) l acc
def oAll : OpL := fun ds h k => arg1 ds fun d => dList d h fun l => allK l true fun b => k (.bl b) h
def oAny : OpL := fun ds h k => arg1 ds fun d => dList d h fun l => anyK l false fun b => k (.bl b) h
def oGcd : OpL := fun ds h k => arg2 ds fun d e => dInt d fun i => dInt e fun j => forceN (Nat.gcd (Int.natAbs i) (Int.natAbs j)) fun n => k (.int (.ofNat n)) h
def fallK (a : Int) (n : Nat) (acc : Int) (k : Int → A) : A := @Nat.rec (fun _ => Int → Int → A) (fun _ acc => k acc) (fun _ ih a acc => forceI (iMul acc a) fun acc => forceI (iSub a (.ofNat 1)) fun a => ih a acc) n a acc
def oComb : OpL := fun ds h k => arg2 ds fun d e => dInt d fun i => dInt e fun j => bsel (iLe (.ofNat 0) i) (bsel (iLe (.ofNat 0) j) (bsel (iLt i (.ofNat 1000)) (kI (PySem.W.mcComb i j) h k) none) none) none
def oList (mk : Bool) : OpL := fun ds h k => arg1 ds fun d => dSeqI d h fun l => mkL mk l h k
def oTuple : OpL := fun ds h k => arg1 ds fun d => dSeqI d h fun l => nrs l (k (.tup l) h)
end
theorem arg1_some {ds : List DV} {f : DV → A} (e : arg1 ds f = some O) : ∃ d, ds = [d] ∧ f d = some O := by
  cases ds with
  | nil => cases e
  | cons d l => cases l with
    | nil => exact ⟨d, rfl, e⟩
    | cons _ _ => cases e
theorem arg2_some {ds : List DV} {f : DV → DV → A} (e : arg2 ds f = some O) : ∃ d d', ds = [d, d'] ∧ f d d' = some O := by
  cases ds with
  | nil => cases e
  | cons d l => cases l with
    | nil => cases e
    | cons d' l => cases l with
      | nil => exact ⟨d, d', rfl, e⟩
      | cons _ _ => cases e
theorem RVl.one {d : DV} {vs : List V} (r : RVl T ρ F H [d] vs) : ∃ v, vs = [v] ∧ RV T ρ F H d v := by
  cases r with
  | cons r t => cases t; exact ⟨_, rfl, r⟩
theorem RVl.two {d e : DV} {vs : List V} (r : RVl T ρ F H [d, e] vs) : ∃ v u, vs = [v, u] ∧ RV T ρ F H d v ∧ RV T ρ F H e u := by
  cases r with
  | cons r t => cases t with
    | cons r' t => cases t; exact ⟨_, _, rfl, r, r'⟩
/-- a built-in of one argument -/
theorem rdb1 {o : DV → CH → K → A} {P : List V → Hp → VK → Prop} (f : ∀ {O ρ F H h k Q d v}, Rep T ρ F H h → RV T ρ F H d v → o d h k = some O → PostK T O ρ F H k Q → P [v] H Q) : ∀ vs H Q, RdB T (fun ds h k => arg1 ds fun d => o d h k) vs H Q → P vs H Q := by
  rintro vs H Q ⟨O, ρ, F, ds, h, k, rp, rv, e, pk⟩
  obtain ⟨d, rfl, e⟩ := arg1_some e
  obtain ⟨v, rfl, r⟩ := rv.one
  exact f rp r e pk
theorem rdb2 {o : DV → DV → CH → K → A} {P : List V → Hp → VK → Prop} (f : ∀ {O ρ F H h k Q d v d' v'}, Rep T ρ F H h → RV T ρ F H d v → RV T ρ F H d' v' → o d d' h k = some O → PostK T O ρ F H k Q → P [v, v'] H Q) : ∀ vs H Q, RdB T (fun ds h k => arg2 ds fun d e => o d e h k) vs H Q → P vs H Q := by
  rintro vs H Q ⟨O, ρ, F, ds, h, k, rp, rv, e, pk⟩
  obtain ⟨d, d', rfl, e⟩ := arg2_some e
  obtain ⟨v, v', rfl, r, r'⟩ := rv.two
  exact f rp r r' e pk
theorem CallR.imp {f : Value} {r r' : List V → Hp → VK → Prop} (c : CallR X f r) (i : ∀ vs H Q, r' vs H Q → r vs H Q) : CallR X f r' := fun pins s σ H xs us Q I rr h => c pins s σ H xs us Q I rr (i _ _ _ h)
theorem dSeqI_some {d : DV} {v : V} {f : List DV → A} (e : dSeqI d h f = some O) (rp : Rep T ρ F H h) (r : RV T ρ F H d v) : ∃ l a vs, v = .ref a ∧ f l = some O ∧ l.length ≤ mx ∧ RVl T ρ F H l vs ∧ ((F a ∧ d = .tup l ∧ H a = some (.tup vs) ∧ RVs T F H l vs) ∨ H a = some (.lst vs)) := by
  cases d with
  | tup l => obtain ⟨a, vs, ev, f, e1, q, n⟩ := r.tup_inv; exact ⟨l, a, vs, ev, e, n, q.rvl, .inl ⟨f, rfl, e1, q⟩⟩
  | lst l => obtain ⟨a, vs, ev, f, e1, q, n⟩ := r.lst_inv; exact ⟨l, a, vs, ev, e, n, q.rvl, .inr e1⟩
  | ref i =>
    obtain ⟨mo, em, e1⟩ := nthK_some (show nthK h i _ = some O from e)
    obtain ⟨n, l, el, e1⟩ := mLst_some e1
    subst el
    obtain ⟨a, ea, b1, b2, vs, e2, q⟩ := rp.cells i _ em
    obtain ⟨a', ev, ea'⟩ := r.ref_inv
    rw [ea] at ea'
    cases ea'
    exact ⟨l, a, vs, ev, e1, Nat.le_trans b1 b2, q, .inr e2⟩
  | _ => cases e
theorem cb_len : CallR X (.builtin "len") (RdB T oLen) := by
  refine CallR.imp (CallR.or call_len_seq call_len_str) (rdb1 fun {O ρ F H h k Q d v} rp r e pk => ?_)
  have key : ∀ {l : List DV} {a : Addr} {vs : List V}, v = .ref a → (SqL X.K H a vs ∨ SqT X.K H a vs) → l.length = vs.length → lenK l 0 (fun n => kN n h k) = some O → (∃ p ys, [v] = [.ref p] ∧ (SqL X.K H p ys ∨ SqT X.K H p ys) ∧ Q (.int ys.length) H) := fun {l a vs} ev hq hl e => by
    rw [lenK_eq, Nat.zero_add] at e
    rw [hl] at e
    exact ⟨a, vs, by rw [ev], hq, pk.now rp e (.int _)⟩
  cases d with
  | str z =>
    have e : lenK z 0 _ = some O := e
    rw [lenK_eq, Nat.zero_add] at e
    obtain ⟨ev, ok⟩ := r.str_inv
    exact .inr ⟨tx z, by rw [ev], by rw [tx_len]; exact mx_line ok.1, by rw [tx_len]; exact pk.now rp e (.int _)⟩
  | tup l => obtain ⟨a, vs, ev, f, e1, q, n⟩ := r.tup_inv; exact .inl (key ev (.inr (.inl (.inl e1))) q.length e)
  | lst l => obtain ⟨a, vs, ev, f, e1, q, n⟩ := r.lst_inv; exact .inl (key ev (.inl (.inl (.inl e1))) q.length e)
  | ref i =>
    obtain ⟨mo, em, e1⟩ := nthK_some (show nthK h i _ = some O from e)
    obtain ⟨n, l, el, e1⟩ := mLst_some e1
    subst el
    obtain ⟨a, ea, b1, b2, vs, e2, q⟩ := rp.cells i _ em
    obtain ⟨a', ev, ea'⟩ := r.ref_inv
    rw [ea] at ea'
    cases ea'
    exact .inl (key ev (.inl (.inl (.inl e2))) q.len e1)
  | _ => cases e
theorem cb_int : CallR X (.type "int") (RdB T oInt) := by
  refine CallR.imp call_int1 (rdb1 fun {O ρ F H h k Q d v} rp r e pk => ?_)
  cases d with
  | int i => exact .inl ⟨i, by rw [r.int_inv], pk.now rp e (.int _)⟩
  | bl b => exact .inr ⟨b, by rw [r.bl_inv], pk.now rp e (by cases b <;> exact .int _)⟩
  | _ => cases e
theorem cb_abs : CallR X (.builtin "abs") (RdB T oAbs) := by
  refine CallR.imp call_abs (rdb1 fun {O ρ F H h k Q d v} rp r e pk => ?_)
  obtain ⟨i, ed, e⟩ := dInt_some e
  subst ed
  refine ⟨i, by rw [r.int_inv], ?_⟩
  rcases bsel2_some e with ⟨b, e⟩ | ⟨b, e⟩
  · rw [iLt_eq] at b
    rw [if_pos (show i < 0 from of_decide_eq_true b)]
    exact pk.now rp (kI_some e) (by rw [iNeg_eq]; exact .int _)
  · rw [iLt_eq] at b
    rw [if_neg (show ¬ i < 0 from of_decide_eq_false b)]
    exact pk.now rp e (.int _)
theorem cb_max2 (hc : X.calm = true) : CallR X (.builtin "max") (RdB T oMax2) := by
  refine CallR.imp (call_max2 hc) (rdb2 fun {O ρ F H h k Q d v d' v'} rp r r' e pk => ?_)
  obtain ⟨i, ed, e⟩ := dInt_some e
  obtain ⟨j, ed', e⟩ := dInt_some e
  subst ed ed'
  refine ⟨i, j, by rw [r.int_inv, r'.int_inv], ?_⟩
  rcases bsel2_some e with ⟨b, e⟩ | ⟨b, e⟩
  · rw [iLt_eq] at b
    rw [if_pos (of_decide_eq_true b)]
    exact pk.now rp e (.int _)
  · rw [iLt_eq] at b
    rw [if_neg (of_decide_eq_false b)]
    exact pk.now rp e (.int _)
theorem cb_min2 (hc : X.calm = true) : CallR X (.builtin "min") (RdB T oMin2) := by
  refine CallR.imp (call_min2 hc) (rdb2 fun {O ρ F H h k Q d v d' v'} rp r r' e pk => ?_)
  obtain ⟨i, ed, e⟩ := dInt_some e
  obtain ⟨j, ed', e⟩ := dInt_some e
  subst ed ed'
  refine ⟨i, j, by rw [r.int_inv, r'.int_inv], ?_⟩
  rcases bsel2_some e with ⟨b, e⟩ | ⟨b, e⟩
  · rw [iLt_eq] at b
    rw [if_pos (of_decide_eq_true b)]
    exact pk.now rp e (.int _)
  · rw [iLt_eq] at b
    rw [if_neg (of_decide_eq_false b)]
    exact pk.now rp e (.int _)
theorem sumK_some : ∀ {l : List DV} {vs : List V} {acc : Int} {k : Int → A}, sumK l acc k = some O → RVl T ρ F H l vs → ∃ ns : List Int, vs = ns.map V.int ∧ k (acc + ns.sum) = some O
  | [], _, acc, k, e, .nil => ⟨[], rfl, by rw [List.sum_nil, Int.add_zero]; exact e⟩
  | d :: l, v :: vs, acc, k, e, .cons r t => by
    obtain ⟨i, ed, e⟩ := dInt_some (show dInt d (fun i => forceI (iAdd acc i) fun a => sumK l a k) = some O from e)
    subst ed
    have e : forceI (iAdd acc i) (fun a => sumK l a k) = some O := e
    rw [forceI_eq, iAdd_eq] at e
    obtain ⟨ns, e1, e2⟩ := sumK_some e t
    refine ⟨i :: ns, by rw [r.int_inv, e1]; rfl, ?_⟩
    rw [List.sum_cons, ← Int.add_assoc]
    exact e2
theorem sum_tuple : CallR X (.builtin "sum") (fun vs H Q => X.calm = true ∧ ∃ (a : Addr) (ns : List Int), vs = [V.ref a] ∧ H a = some (.tup (ns.map V.int)) ∧ Q (.int ns.sum) H) := by
  intro pins s σ H vs us Q I r h
  obtain ⟨hc, a, ns, rfl, hs, q⟩ := h
  obtain ⟨its, rv, ht, _⟩ := I.tuple (.inl (.inl hs))
  rw [Vals.ref1 r]
  have hi := rv.ints
  obtain ⟨xs, e⟩ := hi.allInts.items
  have hn : numsOf (intItems xs).toList = ns := by rw [← e]; exact hi.numsOf
  rw [nums_intItems] at hn
  rw [e] at ht
  refine PySem.W.ktm_sumG (I.ok.hd hc) ht fun h' tk t' hk => ⟨.int ns.sum, H, I.kept hk, ⟨t', ?_⟩, q⟩
  rw [preSum_eq, List.take_of_length_le (by simp), hn]
theorem cb_sum (hc : X.calm = true) : CallR X (.builtin "sum") (RdB T oSum) := by
  refine CallR.imp (CallR.or (cr_sum hc) sum_tuple) (rdb1 fun {O ρ F H h k Q d v} rp r e pk => ?_)
  obtain ⟨l, a, vs, ev, e, n, rv, hq⟩ := dSeqI_some e rp r
  obtain ⟨ns, e1, e2⟩ := sumK_some e rv
  subst ev e1
  have q : Q (.int ns.sum) H := pk.now rp e2 (by rw [show (Int.ofNat 0 + ns.sum : Int) = ns.sum from Int.zero_add _]; exact .int _)
  rcases hq with ⟨_, _, e3, _⟩ | e3
  · exact .inr ⟨hc, a, ns, rfl, e3, q⟩
  · exact .inl ⟨a, ns, rfl, .inl (.inl e3), q⟩
theorem bestK_go {lt : Int → Int → Bool} : ∀ {l : List DV} {vs : List V} {b : Int} {k : Int → A}, @List.rec DV (fun _ => Int → A) (fun b => k b) (fun d _ ih b => dInt d fun i => bsel (lt i b) (ih i) (ih b)) l b = some O → RVl T ρ F H l vs →
    ∃ ns : List Int, vs = ns.map V.int ∧ k (ns.foldl (fun b i => if lt i b = true then i else b) b) = some O
  | [], _, b, k, e, .nil => ⟨[], rfl, e⟩
  | d :: l, v :: vs, b, k, e, .cons r t => by
    obtain ⟨i, ed, e⟩ := dInt_some (show dInt d (fun i => bsel (lt i b) _ _) = some O from e)
    subst ed
    rcases bsel2_some e with ⟨z, e⟩ | ⟨z, e⟩
    · obtain ⟨ns, e1, e2⟩ := bestK_go e t
      refine ⟨i :: ns, by rw [r.int_inv, e1]; rfl, ?_⟩
      rw [List.foldl_cons, if_pos z]
      exact e2
    · obtain ⟨ns, e1, e2⟩ := bestK_go e t
      refine ⟨i :: ns, by rw [r.int_inv, e1]; rfl, ?_⟩
      rw [List.foldl_cons, if_neg (by rw [z]; exact Bool.false_ne_true)]
      exact e2
theorem bestK_some {lt : Int → Int → Bool} {l : List DV} {vs : List V} {k : Int → A} (e : bestK lt l k = some O) (rv : RVl T ρ F H l vs) : ∃ (n : Int) (ns : List Int), vs = (n :: ns).map V.int ∧ k (ns.foldl (fun b i => if lt i b = true then i else b) n) = some O := by
  cases rv with
  | nil => cases e
  | cons r t =>
    obtain ⟨i, ed, e⟩ := dInt_some (show dInt _ (fun i => @List.rec DV (fun _ => Int → A) (fun b => k b) _ _ i) = some O from e)
    subst ed
    obtain ⟨ns, e1, e2⟩ := bestK_go e t
    exact ⟨i, ns, by rw [r.int_inv, e1]; rfl, e2⟩
theorem fold_min : ∀ (ns : List Int) (n m : Int), m ∈ n :: ns → (∀ y, y ∈ n :: ns → m ≤ y) → ns.foldl (fun b i => if iLt i b = true then i else b) n = m
  | [], n, m, h, _ => by simp at h; exact h.symm
  | a :: ns, n, m, h, hm => by
    rw [List.foldl_cons, iLt_eq]
    have h1 := hm n (by simp)
    have h2 := hm a (by simp)
    by_cases z : a < n
    · rw [if_pos (by simpa using z)]
      refine fold_min ns a m ?_ fun y hy => hm y (List.mem_cons_of_mem _ hy)
      rcases List.mem_cons.mp h with q | q
      · omega
      · exact q
    · rw [if_neg (by simpa using z)]
      refine fold_min ns n m ?_ fun y hy => hm y (by rcases List.mem_cons.mp hy with q | q <;> simp [q])
      rcases List.mem_cons.mp h with q | q
      · simp [q]
      · rcases List.mem_cons.mp q with q | q
        · have : m = n := by omega
          simp [this]
        · exact List.mem_cons_of_mem _ q
theorem fold_max : ∀ (ns : List Int) (n m : Int), m ∈ n :: ns → (∀ y, y ∈ n :: ns → y ≤ m) → ns.foldl (fun b i => if iLt b i = true then i else b) n = m
  | [], n, m, h, _ => by simp at h; exact h.symm
  | a :: ns, n, m, h, hm => by
    rw [List.foldl_cons, iLt_eq]
    have h1 := hm n (by simp)
    have h2 := hm a (by simp)
    by_cases z : n < a
    · rw [if_pos (by simpa using z)]
      refine fold_max ns a m ?_ fun y hy => hm y (List.mem_cons_of_mem _ hy)
      rcases List.mem_cons.mp h with q | q
      · omega
      · exact q
    · rw [if_neg (by simpa using z)]
      refine fold_max ns n m ?_ fun y hy => hm y (by rcases List.mem_cons.mp hy with q | q <;> simp [q])
      rcases List.mem_cons.mp h with q | q
      · simp [q]
      · rcases List.mem_cons.mp q with q | q
        · have : m = n := by omega
          simp [this]
        · exact List.mem_cons_of_mem _ q
theorem cb_min1 (hc : X.calm = true) : CallR X (.builtin "min") (RdB T oMin1) := by
  refine CallR.imp (cr_min hc) (rdb1 fun {O ρ F H h k Q d v} rp r e pk => ?_)
  obtain ⟨a, l, vs, ev, e1, q, n, e⟩ := dList_some e rp r
  obtain ⟨m, ns, e2, e3⟩ := bestK_some e q
  subst ev e2
  refine ⟨a, m :: ns, rfl, .inl (.inl e1), by simp, fun b hb hm => ?_⟩
  rw [fold_min ns m b hb hm] at e3
  exact pk.now rp e3 (.int _)
theorem cb_max1 (hc : X.calm = true) : CallR X (.builtin "max") (RdB T oMax1) := by
  refine CallR.imp (cr_max hc) (rdb1 fun {O ρ F H h k Q d v} rp r e pk => ?_)
  obtain ⟨a, l, vs, ev, e1, q, n, e⟩ := dList_some e rp r
  obtain ⟨m, ns, e2, e3⟩ := bestK_some e q
  subst ev e2
  refine ⟨a, m :: ns, rfl, .inl (.inl e1), by simp, fun b hb hm => ?_⟩
  rw [fold_max ns m b hb hm] at e3
  exact pk.now rp e3 (.int _)
theorem allK_some : ∀ {l : List DV} {vs : List V} {acc : Bool} {k : Bool → A}, allK l acc k = some O → RVl T ρ F H l vs → ∃ bs : List Bool, vs = bs.map V.bl ∧ k (acc && bs.all id) = some O
  | [], _, acc, k, e, .nil => ⟨[], rfl, by rw [List.all_nil, Bool.and_true]; exact e⟩
  | d :: l, v :: vs, acc, k, e, .cons r t => by
    obtain ⟨b, ed, e⟩ := dBl_some (show dBl d (fun b => bsel b (allK l acc k) (allK l false k)) = some O from e)
    subst ed
    cases b with
    | true =>
      obtain ⟨bs, e1, e2⟩ := allK_some (show allK l acc k = some O from e) t
      exact ⟨true :: bs, by rw [r.bl_inv, e1]; rfl, by simpa using e2⟩
    | false =>
      obtain ⟨bs, e1, e2⟩ := allK_some (show allK l false k = some O from e) t
      exact ⟨false :: bs, by rw [r.bl_inv, e1]; rfl, by simpa using e2⟩
theorem anyK_some : ∀ {l : List DV} {vs : List V} {acc : Bool} {k : Bool → A}, anyK l acc k = some O → RVl T ρ F H l vs → ∃ bs : List Bool, vs = bs.map V.bl ∧ k (acc || bs.any id) = some O
  | [], _, acc, k, e, .nil => ⟨[], rfl, by rw [List.any_nil, Bool.or_false]; exact e⟩
  | d :: l, v :: vs, acc, k, e, .cons r t => by
    obtain ⟨b, ed, e⟩ := dBl_some (show dBl d (fun b => bsel b (anyK l true k) (anyK l acc k)) = some O from e)
    subst ed
    cases b with
    | true =>
      obtain ⟨bs, e1, e2⟩ := anyK_some (show anyK l true k = some O from e) t
      exact ⟨true :: bs, by rw [r.bl_inv, e1]; rfl, by simpa using e2⟩
    | false =>
      obtain ⟨bs, e1, e2⟩ := anyK_some (show anyK l acc k = some O from e) t
      exact ⟨false :: bs, by rw [r.bl_inv, e1]; rfl, by simpa using e2⟩
theorem cb_all (hc : X.calm = true) : CallR X (.builtin "all") (RdB T oAll) := by
  refine CallR.imp (cr_all hc) (rdb1 fun {O ρ F H h k Q d v} rp r e pk => ?_)
  obtain ⟨a, l, vs, ev, e1, q, n, e⟩ := dList_some e rp r
  obtain ⟨bs, e2, e3⟩ := allK_some e q
  subst ev e2
  exact ⟨a, bs, rfl, .inl (.inl e1), by rw [Bool.true_and] at e3; exact pk.now rp e3 (.bl _)⟩
theorem cb_any (hc : X.calm = true) : CallR X (.builtin "any") (RdB T oAny) := by
  refine CallR.imp (cr_any hc) (rdb1 fun {O ρ F H h k Q d v} rp r e pk => ?_)
  obtain ⟨a, l, vs, ev, e1, q, n, e⟩ := dList_some e rp r
  obtain ⟨bs, e2, e3⟩ := anyK_some e q
  subst ev e2
  exact ⟨a, bs, rfl, .inl (.inl e1), by rw [Bool.false_or] at e3; exact pk.now rp e3 (.bl _)⟩
theorem cb_gcd : CallR X (.builtin "math.gcd") (RdB T oGcd) := by
  refine CallR.imp cr_gcd (rdb2 fun {O ρ F H h k Q d v d' v'} rp r r' e pk => ?_)
  obtain ⟨i, ed, e1⟩ := dInt_some e
  obtain ⟨j, ed', e2⟩ := dInt_some e1
  subst ed ed'
  rw [forceN_eq] at e2
  exact ⟨i, j, by rw [r.int_inv, r'.int_inv], pk.now rp e2 (.int _)⟩
theorem cb_comb : CallR X (.builtin "math.comb") (RdB T oComb) := by
  intro pins s σ H vs us Q I r hq
  obtain ⟨O, ρ, F, ds, h, k, rp, rv, e, pk⟩ := hq
  obtain ⟨d, d', rfl, e⟩ := arg2_some e
  obtain ⟨v, v', rfl, r1, r2⟩ := rv.two
  obtain ⟨i, ed, e⟩ := dInt_some e
  obtain ⟨j, ed', e⟩ := dInt_some e
  subst ed ed'
  obtain ⟨b1, e⟩ := bsel_some e
  obtain ⟨b2, e⟩ := bsel_some e
  obtain ⟨b3, e⟩ := bsel_some e
  rw [iLe_eq] at b1 b2
  rw [iLt_eq] at b3
  have h1 : (0 : Int) ≤ i := of_decide_eq_true b1
  have h2 : (0 : Int) ≤ j := of_decide_eq_true b2
  have h3 : i < (1000 : Int) := of_decide_eq_true b3
  have e1 := r1.int_inv
  have e2 := r2.int_inv
  subst e1 e2
  obtain ⟨t, u, rfl⟩ := Vals.int2 r
  exact PySem.W.mc_comb h1 h2 (by omega) (.inr (by omega)) fun _ => ⟨.int _, H, I.tok _, ⟨_, rfl⟩, pk.now rp (kI_some e) (.int _)⟩
theorem cb_list (mk : Bool) : CallR X (.type "list") (RdB T (oList mk)) := by
  refine CallR.imp call_list_of (rdb1 fun {O ρ F H h k Q d v} rp r e pk => ?_)
  obtain ⟨l, a, vs, ev, e, n, rv, hq⟩ := dSeqI_some e rp r
  subst ev
  refine ⟨a, vs, rfl, ?_, post_mk rp n rv e pk⟩
  rcases hq with ⟨_, _, e3, _⟩ | e3
  · exact .inr (.inl (.inl e3))
  · exact .inl (.inl (.inl e3))
theorem cb_tuple : CallR X (.type "tuple") (RdB T oTuple) := by
  refine CallR.imp call_tuple_of (rdb1 fun {O ρ F H h k Q d v} rp r e pk => ?_)
  obtain ⟨l, a, vs, ev, e, n, rv, hq⟩ := dSeqI_some e rp r
  subst ev
  obtain ⟨nn, e⟩ := nrs_some e
  refine ⟨a, vs, rfl, ?_⟩
  rcases hq with ⟨f, _, e3, q⟩ | e3
  · exact .inr ⟨.inl (.inl e3), pk.now rp e (.tup f e3 q n)⟩
  · exact .inl ⟨.inl (.inl e3), post_tup rp n (rv.imm nn) e pk⟩
section
variable {nm : Str} {p pos : Pos} {e : Expr} {es : List Expr} {o : OpL} {ca : LCode} {id : String}
theorem eL_of {P : List V → Hp → VK → Prop} {L : Nat → Prop} (i : ∀ vs H Q, RdB T o vs H Q → P vs H Q) (hq : RdE T W (eL o ca) σ H Q) : tCB P (RdA T W L ca) σ H Q := by
  obtain ⟨O, ρ, F, s, h, k, x, rp, rs, e, pk, px⟩ := hq
  exact ⟨O, ρ, F, s, h, _, x, rp, rs, e, fun ds h1 hl e1 ρ1 F1 H1 vs l1 r1 rvs => i _ _ _ ⟨O, ρ1, F1, ds, h1, k, r1, rvs, e1, pk.le l1⟩, px⟩
/-- f(e, ..), f a built-in function (by its own name) -/
theorem snd_callB (hc : CallR X (.builtin id) (RdB T o)) (hg : Gl X nm) (hm : X.mg nm = none) (hv : bootBuiltins nm = some (.builtin id)) (ha : SndA T X W (e :: es) ca) (hn : nm ≠ "__name__") (hdb : (nm == ("__debug__" : Str)) = false)
    (he : starEach (e :: es) X.env = (false, eval e X.env) :: starEach es X.env) (hpl : (backTo pos (starEach es X.env)).any (·.1) = false) : Snd T X W (.Call (.Name nm p) (e :: es) [] pos) (eL o ca) :=
  PE.imp (pe_callB hc hg hm hv ha hn hdb he hpl) fun _ _ _ hq => eL_of (fun _ _ _ h => h) hq
theorem snd_callTy (hc : CallR X (.type id) (RdB T o)) (hg : Gl X nm) (hm : X.mg nm = none) (hv : bootBuiltins nm = some (.type id)) (ha : SndA T X W (e :: es) ca) (hn : nm ≠ "__name__") (hdb : (nm == ("__debug__" : Str)) = false)
    (he : starEach (e :: es) X.env = (false, eval e X.env) :: starEach es X.env) (hpl : (backTo pos (starEach es X.env)).any (·.1) = false) : Snd T X W (.Call (.Name nm p) (e :: es) [] pos) (eL o ca) :=
  PE.imp (pe_callTy hc hg hm hv ha hn hdb he hpl) fun _ _ _ hq => eL_of (fun _ _ _ h => h) hq
/-- a module's function, imported by its name -/
theorem snd_callM (hc : CallR X (.builtin id) (RdB T o)) (hg : Gl X nm) (hm : X.mg nm = some (.builtin id)) (ha : SndA T X W (e :: es) ca) (hdb : (nm == ("__debug__" : Str)) = false)
    (he : starEach (e :: es) X.env = (false, eval e X.env) :: starEach es X.env) (hpl : (backTo pos (starEach es X.env)).any (·.1) = false) : Snd T X W (.Call (.Name nm p) (e :: es) [] pos) (eL o ca) :=
  PE.imp (pe_callBfun hc hg hm ha hdb he hpl) fun _ _ _ hq => eL_of (fun _ _ _ h => h) hq
end
end SW
end
section
/-! Instances of classes with slots: attributes, properties, methods, making. -/
namespace SW
open PySem PySem.Spec PyProof.Rows L2 SlX
variable {T : Tab} {O : Out} {ρ ρ1 ρ' : List Addr} {F F1 F' : Fz} {H H1 H' : Hp} {h h1 : CH} {s : SW.St} {σ : L2.St} {k : K} {x : KX} {Q : VK} {W : WX} {X : Cx} {E : XK}
noncomputable section
def pick {α : Type} (l : List (Nat × α)) (c : Nat) (f : α → A) (z : A) : A := @List.rec (Nat × α) (fun _ => A) z (fun p _ ih => @Prod.rec Nat α (fun _ => A) (fun n a => bsel (Nat.beq n c) (f a) ih) p) l
def moObj (mo : MO) (f : Nat → List (Option DV) → A) : A := @MO.rec (fun _ => A) (fun _ _ => none) (fun _ _ => none) (fun c l => f c l) none none none mo
/-- the class and what its slots hold -/
def dObj (d : DV) (h : CH) (f : Nat → List DV → A) (g : Nat → List (Option DV) → A) : A := @DV.rec (fun _ => A) (fun _ => Unit) none (fun _ => none) (fun _ => none) (fun _ => none) (fun _ _ => none) (fun _ _ => none) (fun c l _ => f c l) (fun _ _ => none) (fun i => nthK h i fun mo => moObj mo g) () (fun _ _ _ _ => ()) d
def oAttr (sl : List (Nat × Nat)) (pr : List (Nat × FCode)) (d : DV) (h : CH) (k : K) : A := dObj d h (fun c l => pick sl c (fun i => nthK l i fun d => k d h) (pick pr c (fun f => f [d] h k noX) none)) (fun c l => pick sl c (fun i => nthK l i fun o => onSome o fun d => k d h) none)
def eAttr (sl : List (Nat × Nat)) (pr : List (Nat × FCode)) (a : Code) : Code := fun s h k x => a s h (fun d h => oAttr sl pr d h k) x
def eMeth (tb : List (Nat × FCode)) (o : Code) (a : LCode) : Code := fun s h k x => o s h (fun d h => dIns d fun c _ => pick tb c (fun f => a s h (fun ds h => f (d :: ds) h k x) x) none) x
end
theorem pick_some {α : Type} {c : Nat} {f : α → A} {z : A} : ∀ {l : List (Nat × α)}, pick l c f z = some O → (∃ a, (c, a) ∈ l ∧ f a = some O) ∨ z = some O
  | [], e => .inr e
  | (n, a) :: l, e => by
    rcases bsel2_some (show bsel (Nat.beq n c) (f a) (pick l c f z) = some O from e) with ⟨b, e'⟩ | ⟨b, e'⟩
    · have := Nat.eq_of_beq_eq_true b
      exact .inl ⟨a, by rw [this]; simp, e'⟩
    · rcases pick_some e' with ⟨a', h1, h2⟩ | h1
      · exact .inl ⟨a', List.mem_cons_of_mem _ h1, h2⟩
      · exact .inr h1
theorem moObj_some {mo : MO} {f : Nat → List (Option DV) → A} (e : moObj mo f = some O) : ∃ c l, mo = .obj c l ∧ f c l = some O := by
  cases mo with
  | obj c l => exact ⟨c, l, rfl, e⟩
  | _ => cases e
/-! ### attributes -/
/-- what the text says of a slot of a class -/
structure SlotAt (K : PySem.W.Frag) (C : Addr) (f : Str) (i : Nat) : Prop where
  cls : SCls K C
  at' : ∃ p, Slot1 K C f p i
/-- what the text says of a property of a class -/
structure PropAt (X : Cx) (CX : CXT) (C : Addr) (f : Str) (sp : Sp) : Prop where
  cls : SCls X.K C
  at' : ∃ p g n, PySem.W.findIn X.K (.ref C) f = some (some (.ref p)) ∧ PySem.W.specialIn X.K (.ref p) "__get__" = some (some (.builtin "property.__get__")) ∧ PySem.W.takesIn X.K (.ref p) = some true ∧
    (∃ rest, PySem.W.recIn X.K p "property" = some (.ref g :: rest)) ∧ FnR X.prog X.w X.K X.mg X.base CX n g sp ∧ Room (n + 1) X.A
def tAttr (X : Cx) (CX : CXT) (f : Str) (ta : TE) : TE := fun σ H Q => ta σ H fun x H1 => ∃ a C dx vs, x = .ref a ∧ Slt H1 a C dx vs ∧
  ((∃ i v, SlotAt X.K C f i ∧ vs[i]? = some (some v) ∧ Q v H1) ∨ (∃ sp, PropAt X CX C f sp ∧ sp [.ref a] H1 Q E0))
theorem pe_attr {CX : CXT} {e : Expr} {f : Str} {pos : Pos} {ta : TE} (he : PE X e ta) (hx : ∀ (H : Hp) (s : Shared) (e : Value) (s' : Shared), CX X.stack H s E0 e s' → False) (hb : attributeBase e f X.env (eval e X.env) = eval e X.env) : PE X (.Attribute e f pos) (tAttr X CX f ta) := by
  refine ⟨fun pins s σ H Q I h => ?_⟩
  refine attr_of hb (thn (he.run pins s σ H _ I h) fun w s1 ⟨x, H1, I1, rx, a, C, dx, vs, ex, hs, q⟩ => ?_)
  subst ex
  obtain rfl : w = Value.ref a := rx
  rcases q with ⟨i, v, sa, l, q⟩ | ⟨sp, pa, q⟩
  · obtain ⟨p, t⟩ := sa.at'
    exact getslot_ok I1 hs sa.cls t l fun u' s2 I2 ru => ⟨v, H1, I2, ru, q⟩
  · obtain ⟨p, g, n, at_, get, tk, rc, Fn, hr⟩ := pa.at'
    exact getprop_sl I1 hs pa.cls at_ get tk rc Fn hr hx q
theorem RV.slt {c : Nat} {l : List DV} {v : V} (r : RV T ρ F H (.ins c l) v) : ∃ a dx vs, v = .ref a ∧ Slt H a (T.cls c) dx (vs.map some) ∧ RVs T F H l vs := by
  obtain ⟨a, dx, vs, ev, f, g, e1, e2, q, n⟩ := r.ins_inv
  exact ⟨a, dx, vs, ev, .inr ⟨e1, e2⟩, q⟩
theorem snd_attr {CX : CXT} {e : Expr} {f : Str} {pos : Pos} {ce : Code} {sl : List (Nat × Nat)} {pr : List (Nat × FCode)} (he : Snd T X W e ce) (hx : ∀ (H : Hp) (s : Shared) (e : Value) (s' : Shared), CX X.stack H s E0 e s' → False) (hb : attributeBase e f X.env (eval e X.env) = eval e X.env)
    (hs : ∀ c i, (c, i) ∈ sl → SlotAt X.K (T.cls c) f i) (hp : ∀ c fc, (c, fc) ∈ pr → PropAt X CX (T.cls c) f (spOf T 1 fc)) : Snd T X W (.Attribute e f pos) (eAttr sl pr ce) := by
  refine PE.imp (pe_attr he hx hb) fun σ H Q hq => ?_
  obtain ⟨O, ρ, F, s, h, k, x, rp, rs, e, pk, px⟩ := hq
  refine RdE.seq rp rs e px fun u h1 ρ1 F1 H1 u' e1 l1 r1 ru rs1 px1 => ?_
  cases u with
  | ins c l =>
    obtain ⟨a, dx, vs, ev, st, q⟩ := ru.slt
    refine ⟨a, _, dx, _, ev, st, ?_⟩
    have e1' : pick sl c (fun i => nthK l i fun d => k d h1) (pick pr c (fun f => f [.ins c l] h1 k noX) none) = some O := e1
    rcases pick_some e1' with ⟨i, hm, e2⟩ | e2
    · obtain ⟨d, ed, e3⟩ := nthK_some e2
      obtain ⟨v, hv, rv⟩ := q.at ed
      exact .inl ⟨i, v, hs c i hm, by rw [List.getElem?_map, hv]; rfl, (pk.le l1).now r1 e3 rv⟩
    · rcases pick_some e2 with ⟨fc, hm, e3⟩ | e3
      · exact .inr ⟨_, hp c fc hm, rfl, O, ρ1, F1, [.ins c l], h1, k, noX, r1, .cons (ev ▸ ru) .nil, e3, pk.le l1, PostX.no⟩
      · cases e3
  | ref i =>
    obtain ⟨mo, em, e0⟩ := nthK_some (show nthK h1 i (fun mo => moObj mo fun c l => pick sl c (fun i => nthK l i fun o => onSome o fun d => k d h1) none) = some O from e1)
    obtain ⟨c, l, el, e2⟩ := moObj_some e0
    rw [el] at em
    obtain ⟨a, ea, dx, vs, ed, nd, st, ln, q⟩ := r1.cells i _ em
    obtain ⟨a', ev, ea'⟩ := ru.ref_inv
    rw [ea] at ea'
    cases ea'
    rcases pick_some e2 with ⟨j, hm, e3⟩ | e3
    · obtain ⟨o, eo, e4⟩ := nthK_some e3
      obtain ⟨d, ed2, e5⟩ := onSome_some e4
      rw [ed2] at eo
      obtain ⟨v, hv, rv⟩ := q j d eo
      exact ⟨a, _, dx, vs, ev, st, .inl ⟨j, v, hs c j hm, hv, (pk.le l1).now r1 e5 rv⟩⟩
    · cases e3
  | _ => cases e1
/-! ### methods -/
structure MethAt (X : Cx) (CX : CXT) (C : Addr) (m : Str) (sp : Sp) : Prop where
  cls : SCls X.K C
  at' : ∃ g n, Meth X.K C m g ∧ FnR X.prog X.w X.K X.mg X.base CX n g sp ∧ Room n X.A
theorem run_fnRS {CX : CXT} {kk : Nat} {f : Addr} {sp : Sp} {pins : List (Addr × Obj)} {s : Shared} {us : List Value} {vs : List V} (Fn : FnR X.prog X.w X.K X.mg X.base CX kk f sp) (hr : Room kk X.A) (hx : PassesAt CX X σ E)
    (I : Inv X pins σ H s) (r : Vals vs us) (h : sp vs H Q E) : wpAny (model X.prog X.w) X.A (call (.ref f) us) (EP X pins σ Q) X.xe s := by
  refine wpAny_call (codeAny_mono (Fn X.A X.stack s H us vs Q E hr I.env0 r h) fun r s' hq => ?_)
  cases r with
  | error e => exact hx pins H s e s' I hq
  | ok fl =>
    cases fl with
    | ret u => exact I.after hq
    | next => exact False.elim hq
    | brk => exact False.elim hq
    | cont => exact False.elim hq
def tMethU (X : Cx) (CX : CXT) (m : Str) (E : L2.St → XK) (ta : TE) (t : TA) : TE := fun σ H Q => ta σ H fun x H1 => ∃ a C dx vs sp, x = .ref a ∧ Slt H1 a C dx vs ∧ MethAt X CX C m sp ∧ t σ H1 fun ws H2 => sp (x :: ws) H2 Q (E σ)
section
variable {CX : CXT} {o e : Expr} {es : List Expr} {m : Str} {apos pos : Pos} {ta : TE} {t : TA} {Eσ : L2.St → XK}
theorem pe_methU {pl : Sem Bool} (he : PE X o ta) (hx : ∀ σ, PassesAt CX X σ (Eσ σ)) (ha : PA X (e :: es) t)
    (hst : starEach (e :: es) X.env = (false, eval e X.env) :: starEach es X.env) (hpl : (backTo pos (starEach es X.env)).any (·.1) = false)
    (ht : eval (.Call (.Attribute o m apos) (e :: es) [] pos) X.env = (do
      let ov ← eval o X.env
      standAt apos.atName
      let (f, first) ← holding [ov] (getMethod ov m pl)
      callWith pos f first (backTo pos (starEach (e :: es) X.env)) (backToKw pos (keywordEach [] X.env)))) : PE X (.Call (.Attribute o m apos) (e :: es) [] pos) (tMethU X CX m Eσ ta t) := by
  refine ⟨fun pins s σ H Q I h => ?_⟩
  refine PySem.W.methodCall_KW (pl := pl) (thn (he.run pins s σ H _ I h) fun u s1 ⟨x, H1, I1, rx, a, C, dx, vs, sp, ex, hsl, ma, q⟩ => ?_) ht
  subst ex
  obtain rfl : u = Value.ref a := rx
  obtain ⟨g, n, hm, Fn, hr⟩ := ma.at'
  refine getmethsl_ok I1 hsl ma.cls hm ?_
  refine PySem.W.callWith_K (first := [.ref a]) (h₀ := X.base) I.ok.mod.kin hm.kp (thn (ha.run pos pins s1 σ H1 _ I1 q) fun us s2 ⟨ws, H2, I2, r, q2⟩ => ⟨I2.kIn, ?_⟩) hst hpl
  exact run_fnRS (us := .ref a :: us) (vs := .ref a :: ws) Fn hr (hx σ) I2 (.cons rfl r) q2
theorem pe_methU0 {pl : Sem Bool} (he : PE X o ta) (hx : ∀ σ, PassesAt CX X σ (Eσ σ))
    (ht : eval (.Call (.Attribute o m apos) [] [] pos) X.env = (do
      let ov ← eval o X.env
      standAt apos.atName
      let (f, first) ← holding [ov] (getMethod ov m pl)
      callWith pos f first (backTo pos (starEach [] X.env)) (backToKw pos (keywordEach [] X.env)))) : PE X (.Call (.Attribute o m apos) [] [] pos) (tMethU X CX m Eσ ta tNil) := by
  refine ⟨fun pins s σ H Q I h => ?_⟩
  refine PySem.W.methodCall_KW (pl := pl) (thn (he.run pins s σ H _ I h) fun u s1 ⟨x, H1, I1, rx, a, C, dx, vs, sp, ex, hsl, ma, q⟩ => ?_) ht
  subst ex
  obtain rfl : u = Value.ref a := rx
  obtain ⟨g, n, hm, Fn, hr⟩ := ma.at'
  refine getmethsl_ok I1 hsl ma.cls hm ?_
  exact PySem.W.callWith_K0 (first := [.ref a]) I1.kIn hm.kp (run_fnRS (us := [.ref a]) (vs := [.ref a]) Fn hr (hx σ) I1 (.cons rfl .nil) q)
theorem meth_of {tb : List (Nat × FCode)} {n : Nat} {ca : LCode} {co : Code} {tA : TA} (hm : ∀ c fc, (c, fc) ∈ tb → MethAt X CX (T.cls c) m (spOf T (n + 1) fc)) (hA : ∀ σ H P, RdA T W (· = n) ca σ H P → tA σ H P)
    (hq : RdE T W (eMeth tb co ca) σ H Q) : tMethU X CX m (WE W) (RdE T W co) tA σ H Q := by
  obtain ⟨O, ρ, F, s, h, k, x, rp, rs, e, pk, px⟩ := hq
  refine RdE.seq rp rs e px fun u h1 ρ1 F1 H1 u' e1 l1 r1 ru rs1 px1 => ?_
  obtain ⟨c, l, ed, e2⟩ := dIns_some e1
  subst ed
  rcases pick_some e2 with ⟨fc, hc, e3⟩ | e3
  · obtain ⟨a, dx, vs, ev, st, q⟩ := ru.slt
    refine ⟨a, _, dx, _, _, ev, st, hm c fc hc, hA _ _ _ ⟨O, ρ1, F1, s, h1, _, x, r1, rs1, e3, fun ds h2 hl e4 ρ2 F2 H2 ws l2 r2 rw' => ?_, px1⟩⟩
    exact ⟨by rw [List.length_cons, ← rw'.len, hl], O, ρ2, F2, .ins c l :: ds, h2, k, x, r2, .cons (ru.le l2) rw', e4, pk.le (l1.trans l2), px1.le l2⟩
  · cases e3
theorem snd_meth {pl : Sem Bool} {tb : List (Nat × FCode)} {n : Nat} {ca : LCode} {co : Code} (he : Snd T X W o co) (hx : ∀ σ, PassesAt CX X σ (WE W σ)) (ha : SndA T X W (e :: es) ca) (hm : ∀ c fc, (c, fc) ∈ tb → MethAt X CX (T.cls c) m (spOf T (n + 1) fc)) (hn : es.length + 1 = n)
    (hst : starEach (e :: es) X.env = (false, eval e X.env) :: starEach es X.env) (hpl : (backTo pos (starEach es X.env)).any (·.1) = false)
    (ht : eval (.Call (.Attribute o m apos) (e :: es) [] pos) X.env = (do
      let ov ← eval o X.env
      standAt apos.atName
      let (f, first) ← holding [ov] (getMethod ov m pl)
      callWith pos f first (backTo pos (starEach (e :: es) X.env)) (backToKw pos (keywordEach [] X.env)))) : Snd T X W (.Call (.Attribute o m apos) (e :: es) [] pos) (eMeth tb co ca) := by
  subst hn
  exact PE.imp (pe_methU he hx ha hst hpl ht) fun _ _ _ hq => meth_of hm (fun _ _ _ z => z) hq
theorem snd_meth0 {pl : Sem Bool} {tb : List (Nat × FCode)} {co : Code} (he : Snd T X W o co) (hx : ∀ σ, PassesAt CX X σ (WE W σ)) (hm : ∀ c fc, (c, fc) ∈ tb → MethAt X CX (T.cls c) m (spOf T 1 fc))
    (ht : eval (.Call (.Attribute o m apos) [] [] pos) X.env = (do
      let ov ← eval o X.env
      standAt apos.atName
      let (f, first) ← holding [ov] (getMethod ov m pl)
      callWith pos f first (backTo pos (starEach [] X.env)) (backToKw pos (keywordEach [] X.env)))) : Snd T X W (.Call (.Attribute o m apos) [] [] pos) (eMeth tb co aNil) :=
  PE.imp (pe_methU0 he hx ht) fun _ _ _ hq => meth_of (n := 0) (tA := tNil) hm (fun σ H P z => by
    obtain ⟨O, ρ, F, s, h, k, x, rp, rs, e, pk, px⟩ := z
    exact pk [] h rfl e ρ F H [] .refl rp .nil) hq
end
end SW
end
section
/-! Making instances; storing slots. -/
namespace SW
open PySem PySem.Spec PyProof.Rows L2 SlX
variable {T : Tab} {O : Out} {ρ ρ1 ρ' : List Addr} {F F1 F' : Fz} {H H1 H' : Hp} {h h1 : CH} {s : SW.St} {σ : L2.St} {k : K} {x : KX} {Q : VK} {W : WX} {X : Cx} {E : XK}
noncomputable section
/-- o.f = v, o an instance under construction -/
def sSlot (sl : List (Nat × Nat)) (o v : Code) : SCode := fun s h n ks => v s h (fun d h => o s h (fun e h => bsel (nr d) (@DV.rec (fun _ => A) (fun _ => Unit) none (fun _ => none) (fun _ => none) (fun _ => none) (fun _ _ => none) (fun _ _ => none) (fun _ _ _ => none) (fun _ _ => none)
  (fun j => nthK h j fun mo => moObj mo fun c l => pick sl c (fun i => putK l i (some d) fun l => putK h j (.obj c l) fun h => n s h) none) () (fun _ _ _ _ => ()) e) none) (ks.xc s)) (ks.xc s)
def allSome (l : List (Option DV)) (k : List DV → A) : A := @List.rec (Option DV) (fun _ => (List DV → A) → A) (fun k => k []) (fun o _ ih k => onSome o fun d => ih fun l => k (d :: l)) l k
/-- what stands at the first place when __init__ is done -/
def kObj : K := fun d h => bsel (isNon d) (nthK h 0 fun mo => moObj mo fun c l => allSome l fun l => @List.rec DV (fun _ => A) none (fun _ _ _ => some (.ret (.ins c l))) l) none
/-- C(..), __init__ on a heap of its own -/
def eMake (c : Nat) (z : List (Option DV)) (f : FCode) (a : LCode) : Code := fun s h k x => a s h (fun ds h => nrs ds (runP (f (.ref 0 :: ds) [.obj c z, .dead] kObj kExc) (fun d => k d h) (fun i l => x i l h))) x
end
theorem putS_le {i n : Nat} {v : V} {vs : List (Option V)} (h : i < n) (h2 : vs.length ≤ n) : (SlX.putS i v vs).length ≤ n := by
  unfold SlX.putS
  rw [List.length_set, List.length_append, List.length_replicate]
  omega
/-- a slot is written -/
theorem Rep.slot {a dx : Addr} {j c i : Nat} {l : List (Option DV)} {vs : List (Option V)} {d : DV} {v : V} (r : Rep T ρ F H h) (e : h[j]? = some (.obj c l)) (ea : ρ[j]? = some a) (ed : ρ[j + 1]? = some dx) (nd : dx ≠ a) (ln : l.length = T.nsl c ∧ vs.length ≤ l.length)
    (q : ∀ (m : Nat) (d : DV), l[m]? = some (some d) → ∃ v, vs[m]? = some (some v) ∧ RVI T F H d v) (hi : i < l.length) (rv : RVI T F H d v) :
    Rep T ρ F (slH H a (T.cls c) dx (SlX.putS i v vs)) (h.set j (.obj c (l.set i (some d)))) ∧ Le ρ F H ρ F (slH H a (T.cls c) dx (SlX.putS i v vs)) := by
  have hm : a ∈ ρ := List.mem_of_getElem? ea
  have hd : dx ∈ ρ := List.mem_of_getElem? ed
  have fa := r.nf j a _ ea e rfl
  have fd := r.nf (j + 1) dx _ ed (r.dd j c l e) rfl
  have hj : j < h.length := (List.getElem?_eq_some_iff.mp e).1
  have same : ∀ y, y ≠ a → y ≠ dx → slH H a (T.cls c) dx (SlX.putS i v vs) y = H y := fun y n1 n2 => slH_ne n1 n2
  have back : ∀ y, slH H a (T.cls c) dx (SlX.putS i v vs) y = none → H y = none := fun y z => by
    by_cases n1 : y = a
    · subst n1
      unfold slH at z
      rw [upd_same] at z
      cases z
    · by_cases n2 : y = dx
      · subst n2
        unfold slH at z
        rw [upd_ne n1, upd_same] at z
        cases z
      · rw [← same y n1 n2]; exact z
  have hf : ∀ y o, F y → H y = some o → slH H a (T.cls c) dx (SlX.putS i v vs) y = some o := fun y o f e => by
    rw [same y (fun z => fa (z ▸ f)) (fun z => fd (z ▸ f))]; exact e
  have le : Le ρ F H ρ F (slH H a (T.cls c) dx (SlX.putS i v vs)) := ⟨⟨[], by simp, by simp⟩, fun y o e ny => by rw [same y (fun z => ny (z ▸ hm)) (fun z => ny (z ▸ hd))]; exact e, fun y h z => h (back y z), fun _ f => f, fun _ f => .inl f, hf⟩
  refine ⟨⟨r.nod, fun y hy z => r.trk y hy (back y z), fun m y mo ey em u => ?_, fun y f z => r.ft y f (back y z), fun m mo em => ?_, by simp [r.len], fun m c' l' em => ?_⟩, le⟩
  · by_cases hmj : j = m
    · subst hmj
      rw [ea] at ey
      cases ey
      exact fa
    · rw [List.getElem?_set_ne hmj] at em
      exact r.nf m y mo ey em u
  · by_cases hmj : j = m
    · subst hmj
      rw [List.getElem?_set_self hj] at em
      have z : MO.obj c (l.set i (some d)) = mo := Option.some.inj em
      subst z
      refine ⟨a, ea, dx, SlX.putS i v vs, ed, nd, slH_slt nd, ⟨by rw [List.length_set]; exact ln.1, by rw [List.length_set]; exact putS_le hi ln.2⟩, fun m d' hmd => ?_⟩
      by_cases hmi : i = m
      · subst hmi
        rw [List.getElem?_set_self hi] at hmd
        have : d = d' := by simpa using hmd
        subst this
        exact ⟨v, putS_get _ _ _, rv.mono hf fun _ f => f⟩
      · rw [List.getElem?_set_ne hmi] at hmd
        obtain ⟨u, hu, ru⟩ := q m d' hmd
        exact ⟨u, (putS_ne (Ne.symm hmi)).mpr hu, ru.mono hf fun _ f => f⟩
    · rw [List.getElem?_set_ne hmj] at em
      obtain ⟨y, ey, my⟩ := r.cells m mo em
      have ny : y ≠ a := fun z => hmj (nodup_at r.nod ea (z ▸ ey))
      have ndx : ∀ mo', h[m]? = some mo' → mo' ≠ .dead → y ≠ dx := fun mo' e' n z => by
        have q1 : j + 1 = m := nodup_at r.nod ed (z ▸ ey)
        have q2 := r.dd j c l e
        rw [q1, e'] at q2
        exact n (Option.some.inj q2)
      refine ⟨y, ey, ?_⟩
      cases mo with
      | dead => trivial
      | gone => trivial
      | lst n l => obtain ⟨b1, b2, us, e1, q⟩ := my; exact ⟨b1, b2, us, by rw [same y ny (ndx _ em (by simp))]; exact e1, q.le le⟩
      | dic b l => exact ⟨my.1, my.2.le le (same y ny (ndx _ em (by simp)))⟩
      | dice => obtain ⟨p, q, z, e1⟩ := my; exact ⟨p, q, z, by rw [same y ny (ndx _ em (by simp))]; exact e1⟩
      | obj c' l' =>
        obtain ⟨dy, us, ed', nd', st, ln', q'⟩ := my
        have nda : dy ≠ a := fun z => by
          have q1 : j = m + 1 := nodup_at r.nod ea (z ▸ ed')
          have q2 := r.dd m c' l' em
          rw [← q1, e] at q2
          cases q2
        have ndd : dy ≠ dx := fun z => by
          have q1 : j + 1 = m + 1 := nodup_at r.nod ed (z ▸ ed')
          exact hmj (by omega)
        have nyd := ndx _ em (by simp)
        refine ⟨dy, us, ed', nd', ?_, ln', fun n d' hn => let ⟨u, hu, ru⟩ := q' n d' hn; ⟨u, hu, ru.le le⟩⟩
        rcases st with ⟨s1, s2⟩ | ⟨s1, s2⟩
        · exact .inl ⟨by rw [same y ny nyd]; exact s1, s2⟩
        · exact .inr ⟨by rw [same y ny nyd]; exact s1, by rw [same dy nda ndd]; exact s2⟩
  · by_cases hmj : j = m
    · subst hmj
      have q := r.dd j c l e
      rw [List.getElem?_set_ne (by omega)]
      exact q
    · rw [List.getElem?_set_ne hmj] at em
      have q := r.dd m c' l' em
      by_cases hk : j = m + 1
      · subst hk
        rw [e] at q
        cases q
      · rw [List.getElem?_set_ne hk]; exact q
theorem snds_slot {o v : Expr} {f : Str} {pos pos' : Pos} {co cv : Code} {sl : List (Nat × Nat)} (ho : Snd T X W o co) (hv : Snd T X W v cv) (hs : ∀ c i, (c, i) ∈ sl → SlotAt X.K (T.cls c) f i) (hw : swapsWith v (some (.Attribute o f pos')) pos.line X.env = pure false) :
    SndS T X W (.Assign [.Attribute o f pos'] v pos) (sSlot sl co cv) := by
  refine PS.imp (ps_sl ho hv hw) fun D σ H hq => ?_
  obtain ⟨O, ρ, F, s, h, n, ks, rp, rs, e, p⟩ := hq
  refine RdE.sq rp rs p e fun d h1 ρ1 F1 H1 v1 e1 r1 rv rs1 p1 => ?_
  refine ⟨O, ρ1, F1, s, h1, _, _, r1, rs1, e1, fun u h2 e2 ρ2 F2 H2 v2 l2 r2 ru => ?_, p1.px rs1⟩
  obtain ⟨nd, e3⟩ := bsel_some e2
  cases u with
  | ref j =>
    obtain ⟨mo, em, e4⟩ := nthK_some (show nthK h2 j (fun mo => moObj mo fun c l => pick sl c (fun i => putK l i (some d) fun l => putK h2 j (.obj c l) fun h => n s h) none) = some O from e3)
    obtain ⟨c, l, el, e5⟩ := moObj_some e4
    rw [el] at em
    obtain ⟨a, ea, dx, vs, ed, nda, st, ln, q⟩ := r2.cells j _ em
    obtain ⟨a', ev, ea'⟩ := ru.ref_inv
    rw [ea] at ea'
    cases ea'
    rcases pick_some e5 with ⟨i, hm, e6⟩ | e6
    · obtain ⟨hi, e7⟩ := putK_some e6
      obtain ⟨hj, e8⟩ := putK_some e7
      obtain ⟨p', t⟩ := (hs c i hm).at'
      have rv2 := (rv.imm_of nd).le l2
      obtain ⟨rp3, l3⟩ := r2.slot em ea ed nda ln q hi rv2
      exact ⟨a, _, dx, p', vs, i, ev, st, (hs c i hm).cls, t, (p1.le l2).nx s _ e8 ρ2 F2 _ σ l3 rp3 ((rs1.le l2).le l3)⟩
    · cases e6
  | _ => cases e3
/-! ### making -/
/-- what the text says of a class that is made -/
structure MakeAt (X : Cx) (CX : CXT) (C : Addr) (sp : Sp) : Prop where
  at' : ∃ g n fd ps, Mk X.K C g ∧ FnOk X.prog X.w X.K X.mg X.base CX n g fd ps sp ∧ Binds X.K fd ps [] ∧ Room (n + 1) X.A
theorem run_makeS {CX : CXT} {C f : Addr} {kk : Nat} {fd : FuncData} {ps : List Str} {sp : Sp} {pins : List (Addr × Obj)} {s : Shared} {us : List Value} {vs : List V} (M : Mk X.K C f) (Fn : FnOk X.prog X.w X.K X.mg X.base CX kk f fd ps sp) (hr : Room (kk + 1) X.A) (hb : Binds X.K fd ps [])
    (hx : PassesAt CX X σ E) (I : Inv X pins σ H s) (r : Vals vs us)
    (h : ∀ x dx, H x = none → H dx = none → dx ≠ x → sp (.ref x :: vs) (upd (upd H dx (.own x)) x (.ins C dx [])) (fun v H2 => v = .non ∧ Q (.ref x) H2) E) :
    wpAny (model X.prog X.w) X.A (call (.ref C) us) (EP X pins σ Q) X.xe s := by
  have hq := h (s.heap.objs.size + 1) s.heap.objs.size (I.hok.fresh (Nat.le_succ _)) (I.hok.fresh (Nat.le_refl _)) (Nat.ne_of_lt (Nat.lt_succ_self _))
  have I2 := Inv.made (C := C) I
  have r2 : Vals (V.ref (s.heap.objs.size + 1) :: vs) (Value.ref (s.heap.objs.size + 1) :: us) := .cons rfl r
  have hl : (Value.ref (s.heap.objs.size + 1) :: us).length = ps.length := by
    have e := r2.length
    rw [Fn.len _ _ _ _ hq] at e
    exact e.symm
  have b := hb { s with heap := (s.heap.push PySem.W.emptyDict).push (PySem.W.instObj C s.heap.objs.size) } (Value.ref (s.heap.objs.size + 1) :: us) I2.kIn (by rw [List.append_nil]; exact hl)
  rw [List.append_nil] at b
  refine wpAny_call (make_map (f := f) I.kIn M.makes M.init (beq_iff_eq.mp M.fn) (codeAny_mono (Fn.run _ X.stack _ _ ⟨Value.ref (s.heap.objs.size + 1) :: us, []⟩ (Value.ref (s.heap.objs.size + 1) :: us) _ _ E (hr.make C us [])
    (I2.env0.make C us []) b r2 hq) fun r s' hq' => ?_))
  cases r with
  | error e => exact hx pins _ _ e s' I2 hq'
  | ok fl =>
    cases fl with
    | ret u =>
      obtain ⟨v, H', I3, rv, ev, q3⟩ := I2.after hq'
      subst ev
      exact ⟨rv, ⟨V.ref (s.heap.objs.size + 1), H', I3, rfl, q3⟩⟩
    | next => exact False.elim hq'
    | brk => exact False.elim hq'
    | cont => exact False.elim hq'
def tMakeS (C : Addr) (sp : Sp) (E : L2.St → XK) (t : TA) : TE := fun σ H Q => t σ H fun vs H1 => ∀ x dx, H1 x = none → H1 dx = none → dx ≠ x →
  sp (.ref x :: vs) (upd (upd H1 dx (.own x)) x (.ins C dx [])) (fun v H2 => v = .non ∧ Q (.ref x) H2) (E σ)
theorem pe_makeS {CX : CXT} {C : Addr} {sp : Sp} {nm : Str} {p pos : Pos} {e : Expr} {es : List Expr} {t : TA} {Eσ : L2.St → XK} (M : MakeAt X CX C sp) (hg : Gl X nm) (hm : X.mg nm = some (.ref C)) (hx : ∀ σ, PassesAt CX X σ (Eσ σ))
    (ha : PA X (e :: es) t) (hdb : (nm == ("__debug__" : Str)) = false) (he : starEach (e :: es) X.env = (false, eval e X.env) :: starEach es X.env) (hpl : (backTo pos (starEach es X.env)).any (·.1) = false) : PE X (.Call (.Name nm p) (e :: es) [] pos) (tMakeS C sp Eσ t) := by
  obtain ⟨g, n, fd, ps, Mk, Fn, hb, hr⟩ := M.at'
  refine ⟨fun pins s σ H Q I h => ?_⟩
  refine wpAny_Call_Name_kw (ld_glob I hg hm ?_ hdb)
  refine PySem.W.callWith_K (h₀ := X.base) I.ok.mod.kin Mk.kp (thn (ha.run pos pins s σ H _ I h) fun us s1 ⟨vs, H1, I1, r, q⟩ => ⟨I1.kIn, ?_⟩) he hpl
  exact run_makeS Mk Fn hr hb (hx σ) I1 r q
theorem allSome_some : ∀ {l : List (Option DV)} {k : List DV → A}, allSome l k = some O → ∃ l', l = l'.map some ∧ k l' = some O
  | [], k, e => ⟨[], rfl, e⟩
  | o :: l, k, e => by
    obtain ⟨d, eo, e1⟩ := onSome_some (show onSome o (fun d => allSome l fun l => k (d :: l)) = some O from e)
    obtain ⟨l', el, e2⟩ := allSome_some e1
    exact ⟨d :: l', by rw [eo, el]; rfl, e2⟩
theorem rvs_of_slots {l : List DV} {vs : List (Option V)} (q : ∀ (m : Nat) (d : DV), (l.map some)[m]? = some (some d) → ∃ v, vs[m]? = some (some v) ∧ RVI T F H d v) : ∃ us, RVs T F H l us ∧ (vs.take l.length) = us.map some := by
  induction l generalizing vs with
  | nil => exact ⟨[], .nil, by simp⟩
  | cons d l ih =>
    obtain ⟨v, hv, rv⟩ := q 0 d rfl
    cases vs with
    | nil => cases hv
    | cons o vs =>
      have ho : o = some v := by simpa using hv
      subst ho
      obtain ⟨us, r, e⟩ := ih (vs := vs) fun m d' hm => by
        obtain ⟨u, hu, ru⟩ := q (m + 1) d' (by simpa using hm)
        exact ⟨u, by simpa using hu, ru⟩
      exact ⟨v :: us, .cons rv r, by simp [e]⟩

/-- the new instance is frozen -/
theorem make_end {a dx : Addr} {c : Nat} {l : List DV} {vs : List (Option V)} (st : Slt H1 a (T.cls c) dx vs) (ln : (l.map some).length = T.nsl c ∧ vs.length ≤ (l.map some).length) (q : ∀ (m : Nat) (d : DV), (l.map some)[m]? = some (some d) → ∃ v, vs[m]? = some (some v) ∧ RVI T F1 H1 d v)
    (hn : l ≠ []) : ∃ us, RVs T F1 H1 l us ∧ H1 a = some (SlO a (T.cls c) dx (us.map some)) ∧ H1 dx = some (.xd []) := by
  obtain ⟨us, r, e⟩ := rvs_of_slots q
  have hl : vs.take l.length = vs := List.take_of_length_le (by rw [List.length_map] at ln; exact ln.2)
  rw [hl] at e
  subst e
  rcases st with ⟨s1, s2⟩ | ⟨s1, s2⟩
  · cases r with
    | nil => exact absurd rfl hn
    | cons _ _ => cases s2
  · exact ⟨us, r, s1, s2⟩
theorem snd_make {CX : CXT} {c n m : Nat} {f : FCode} {nm : Str} {p pos : Pos} {e : Expr} {es : List Expr} {ca : LCode} (M : MakeAt X CX (T.cls c) (spOf T n f)) (hg : Gl X nm) (hm : X.mg nm = some (.ref (T.cls c))) (hx : ∀ σ, PassesAt CX X σ (WE W σ))
    (ha : SndA T X W (e :: es) ca) (hn : es.length + 2 = n) (hz : T.nsl c = m + 1) (hdb : (nm == ("__debug__" : Str)) = false) (he : starEach (e :: es) X.env = (false, eval e X.env) :: starEach es X.env) (hpl : (backTo pos (starEach es X.env)).any (·.1) = false) :
    Snd T X W (.Call (.Name nm p) (e :: es) [] pos) (eMake c (List.replicate (m + 1) none) f ca) := by
  refine PE.imp (pe_makeS M hg hm hx ha hdb he hpl) fun σ H Q hq => ?_
  obtain ⟨O, ρ, F, s, h, k, x, rp, rs, e, pk, px⟩ := hq
  refine ⟨O, ρ, F, s, h, _, x, rp, rs, e, fun ds h1 hl e1 ρ1 F1 H1 vs l1 r1 rvs a dx ha hd nd => ?_, px⟩
  obtain ⟨nds, e2⟩ := nrs_some e1
  have rvi := rvs.imm nds
  obtain ⟨na1, na2⟩ := r1.fresh ha
  obtain ⟨nd1, nd2⟩ := r1.fresh hd
  generalize hH2 : upd (upd H1 dx (.own a)) a (.ins (T.cls c) dx []) = H2
  have kp : ∀ y o, H1 y = some o → H2 y = some o := fun y o e => by
    rw [← hH2, upd_ne (ne_of_none e ha), upd_ne (ne_of_none e hd)]; exact e
  have H2a : H2 a = some (.ins (T.cls c) dx []) := by rw [← hH2, upd_same]
  have H2d : H2 dx = some (.own a) := by rw [← hH2, upd_ne nd, upd_same]
  have rp2 : Rep T [a, dx] F1 H2 [.obj c (List.replicate (m + 1) none), .dead] := by
    refine ⟨by simp [Ne.symm nd], fun y hy => ?_, fun i y mo ey em u => ?_, fun y f z => ?_, fun i mo em => ?_, rfl, fun i c' l' em => ?_⟩
    · rcases List.mem_cons.mp hy with q | q
      · rw [q, H2a]; simp
      · rw [List.mem_singleton.mp q, H2d]; simp
    · have hy := List.mem_of_getElem? ey
      rcases List.mem_cons.mp hy with q | q
      · rw [q]; exact na2
      · rw [List.mem_singleton.mp q]; exact nd2
    · cases q : H1 y with
      | none => exact r1.ft y f q
      | some o => rw [kp y o q] at z; cases z
    · cases i with
      | zero =>
        have : MO.obj c (List.replicate (m + 1) none) = mo := by simpa using em
        subst this
        refine ⟨a, rfl, dx, [], rfl, nd, .inl ⟨H2a, rfl⟩, ⟨by rw [List.length_replicate]; exact hz.symm, Nat.zero_le _⟩, fun j d hj => ?_⟩
        rw [List.getElem?_replicate] at hj
        split at hj <;> cases hj
      | succ i => cases i with
        | zero =>
          have : MO.dead = mo := by simpa using em
          subst this
          exact ⟨dx, rfl, trivial⟩
        | succ i => simp at em
    · cases i with
      | zero => rfl
      | succ i => cases i with
        | zero => simp at em
        | succ i => simp at em
  have rv2 : RVl T [a, dx] F1 H2 (.ref 0 :: ds) (.ref a :: vs) := .cons (.ref rfl) (rvi.mono (fun y o _ e => kp y o e) fun _ f => f).rvl
  have hlen : (V.ref a :: vs).length = n := by rw [List.length_cons, ← rvs.len, hl]; exact hn
  -- what stands behind __init__, seen from the caller
  have out : ∀ {ρ3 : List Addr} {F3 : Fz} {H3 : Hp}, Le [a, dx] F1 H2 ρ3 F3 H3 → ∀ {F4 : Fz}, (∀ y, F4 y ↔ F3 y ∨ y = a ∨ y = dx) → H3 a ≠ none → H3 dx ≠ none → (∀ y, F3 y → H3 y ≠ none) → Le ρ1 F1 H1 ρ1 F4 H3 ∧ Rep T ρ1 F4 H3 h1 := fun {ρ3 F3 H3} l3 {F4} hF xa xd ft => by
    have na : ∀ y o, H1 y = some o → y ∉ [a, dx] := fun y o e hm => by
      rcases List.mem_cons.mp hm with q | q
      · rw [q, ha] at e; cases e
      · rw [List.mem_singleton.mp q, hd] at e; cases e
    have fn : ∀ y, F4 y → F1 y ∨ H1 y = none := fun y f => by
      rcases (hF y).mp f with f | f | f
      · rcases l3.fn y f with f | f | f
        · exact .inl f
        · refine .inr ?_
          cases q : H1 y with
          | none => rfl
          | some o => rw [kp y o q] at f; cases f
        · refine .inr ?_
          rcases List.mem_cons.mp f with q | q
          · rw [q]; exact ha
          · rw [List.mem_singleton.mp q]; exact hd
      · exact .inr (by rw [f]; exact ha)
      · exact .inr (by rw [f]; exact hd)
    have le : Le ρ1 F1 H1 ρ1 F4 H3 := by
      refine ⟨⟨[], by simp, by simp⟩, fun y o e _ => l3.frm y o (kp y o e) (na y o e), fun y hy => ?_, fun y f => (hF y).mpr (.inl (l3.fz y f)), fun y f => ?_, fun y o f e => l3.frm y o (kp y o e) (na y o e)⟩
      · cases q : H1 y with
        | none => exact absurd q hy
        | some o => exact l3.trk y (by rw [kp y o q]; simp)
      · exact (fn y f).imp id .inl
    refine ⟨le, r1.same le (fun y hy => ?_) (fun y f => ?_) fn⟩
    · cases q : H1 y with
      | none => exact absurd q (r1.trk y hy)
      | some o => exact l3.frm y o (kp y o q) (na y o q)
    · rcases (hF y).mp f with f | f | f
      · exact ft y f
      · rw [f]; exact xa
      · rw [f]; exact xd
  rcases runP_some e2 with ⟨d0, e3, e4⟩ | ⟨c0, l0, e3, e4⟩
  · refine ⟨hlen, .ret d0, [a, dx], F1, _, _, kObj, kExc, rp2, rv2, e3, fun d h' e5 ρ3 F3 H3 v l3 r3 r => ?_, fun ci fs h' e5 => ?_⟩
    · obtain ⟨nn, e6⟩ := bsel_some e5
      have vn : v = .non := by
        have := isNon_eq r
        rw [nn] at this
        exact of_decide_eq_true this
      obtain ⟨mo, em, e7⟩ := nthK_some e6
      obtain ⟨c', l', el, e8⟩ := moObj_some e7
      rw [el] at em
      obtain ⟨l'', e9, e10⟩ := allSome_some e8
      have ne : l'' ≠ [] := fun z => by rw [z] at e10; cases e10
      have ed0 : d0 = .ins c' l'' := by
        cases l'' with
        | nil => exact absurd rfl ne
        | cons y l2 =>
          have e10 : (some (.ret (.ins c' (y :: l2))) : A) = some (.ret d0) := e10
          cases e10
          rfl
      obtain ⟨a', ea', dx', vs', ed', nd', st, ln, q⟩ := r3.cells 0 _ em
      rw [l3.at (show [a, dx][0]? = some a from rfl)] at ea'
      cases ea'
      rw [l3.at (show [a, dx][0 + 1]? = some dx from rfl)] at ed'
      cases ed'
      subst e9
      obtain ⟨us, ru, h1', h2'⟩ := make_end st ln q ne
      have xa : H3 a ≠ none := by rw [h1']; simp
      have xd : H3 dx ≠ none := by rw [h2']; simp
      obtain ⟨le, rp4⟩ := out l3 (F4 := fun y => F3 y ∨ y = a ∨ y = dx) (fun y => Iff.rfl) xa xd r3.ft
      refine ⟨vn, pk d0 h1 e4 ρ1 _ H3 (.ref a) (l1.trans le) rp4 ?_⟩
      rw [ed0]
      refine .imm (.ins (.inr (.inl rfl)) (.inr (.inr rfl)) h1' h2' (ru.mono (fun _ _ _ e => e) fun _ f => .inl f) ?_)
      have := ln.1
      rw [List.length_map] at this
      exact this
    · obtain ⟨_, e6⟩ := nrs_some e5
      cases e6
  · refine ⟨hlen, .exc c0 l0, [a, dx], F1, _, _, kObj, kExc, rp2, rv2, e3, fun d h' e5 => ?_, fun ci fs h' e5 ρ3 F3 H3 cls dx' l3 r3 r => ?_⟩
    · obtain ⟨_, e6⟩ := bsel_some e5
      obtain ⟨mo, em, e7⟩ := nthK_some e6
      obtain ⟨c', l', el, e8⟩ := moObj_some e7
      obtain ⟨l'', e9, e10⟩ := allSome_some e8
      cases l'' with
      | nil => cases e10
      | cons y l2 =>
        have e10 : (some (.ret (.ins c' (y :: l2))) : A) = some (.exc c0 l0) := e10
        cases e10
    · obtain ⟨_, e6⟩ := nrs_some e5
      cases e6
      have xa : H3 a ≠ none := l3.trk a (by rw [H2a]; simp)
      have xd : H3 dx ≠ none := l3.trk dx (by rw [H2d]; simp)
      obtain ⟨le, rp4⟩ := out l3 (F4 := fun y => F3 y ∨ y = a ∨ y = dx) (fun y => Iff.rfl) xa xd r3.ft
      refine px _ _ h1 e4 ρ1 _ H3 cls dx' (l1.trans le) rp4 ⟨r.1, ?_⟩
      rcases r.2 with q | ⟨z, us, q1, q2, q3, q4⟩
      · exact .inl q
      · exact .inr ⟨z, us, q1, q2, q3.mono (fun _ _ _ e => e) (fun _ f => .inl f), q4⟩
end SW
end
section
/-! isinstance. -/
namespace SW
open PySem PySem.Spec PyProof.Rows L2 SlX
variable {T : Tab} {O : Out} {ρ ρ1 ρ' : List Addr} {F F1 F' : Fz} {H H1 H' : Hp} {h h1 : CH} {s : SW.St} {σ : L2.St} {k : K} {x : KX} {Q : VK} {W : WX} {X : Cx} {E : XK}
noncomputable section
/-- an int that is not known, not the script -/
def gOk (lo hi : Int) (x : A) : A := bsel (iLt lo hi) x (bsel (iLt hi (.ofNat 0)) x none)
/-- a class's number: None, bool, int, str, tuple, list; own ones from 10 on -/
def clsOf (nc : Nat) (d : DV) (h : CH) (k : Nat → A) : A := @DV.rec (fun _ => A) (fun _ => Unit) (k 0) (fun _ => k 1) (fun _ => k 2) (fun _ => k 3) (fun _ _ => k 4) (fun _ _ => k 5) (fun c _ _ => bsel (Nat.blt c nc) (k (Nat.add 10 c)) none) (fun lo hi => gOk lo hi (k 2)) (fun i => nthK h i fun mo => mLst mo fun _ _ => k 5) () (fun _ _ _ _ => ()) d
def oIsi (nc : Nat) (acc : List Nat) : Op1 := fun d h k => clsOf nc d h fun n => kB (anyNat n acc) h k
end
theorem gOk_some {lo hi : Int} {y : A} (e : gOk lo hi y = some O) : (lo < hi ∨ hi < 0) ∧ y = some O := by
  rcases bsel2_some (show bsel _ _ _ = some O from e) with ⟨b, e1⟩ | ⟨b, e1⟩
  · rw [iLt_eq] at b
    exact ⟨.inl (of_decide_eq_true b), e1⟩
  · obtain ⟨b2, e2⟩ := bsel_some e1
    rw [iLt_eq] at b2
    exact ⟨.inr (of_decide_eq_true b2), e2⟩
/-- the class with a number -/
def tyC (T : Tab) : Nat → Value
  | 0 => .type "NoneType"
  | 1 => .type "bool"
  | 2 => .type "int"
  | 3 => .type "str"
  | 4 => .type "tuple"
  | 5 => .type "list"
  | n => .ref (T.cls (n - 10))
/-- what the written part answers -/
structure IsiOk (K : PySem.W.Frag) (T : Tab) (nc : Nat) (u : Value) (acc : List Nat) : Prop where
  low : ∀ n, n < 6 → PySem.W.kitOne K (tyC T n) u = some (anyNat n acc)
  own : ∀ c, c < nc → PySem.W.kitOne K (.ref (T.cls c)) u = some (anyNat (10 + c) acc) ∧ SCls K (T.cls c) ∧ SIsi K (T.cls c)
theorem isi_of {nc : Nat} {acc : List Nat} {u : Value} {c : V} {K : PySem.W.Frag} (ok : IsiOk K T nc u acc) (hu : ClsV c u) (rp : Rep T ρ F H h) {d : DV} {v : V} (r : RV T ρ F H d v) (e : oIsi nc acc d h k = some O) (pk : PostK T O ρ F H k Q) :
    rIsi K [v, c] H Q ∨ rIsiSl K u [v, c] H Q := by
  have fin : ∀ {t : Value} {n : Nat}, TyX K H v t → PySem.W.kitOne K t u = some (anyNat n acc) → kB (anyNat n acc) h k = some O → rIsi K [v, c] H Q := fun {t n} ty e1 e2 =>
    ⟨v, c, t, u, _, rfl, hu, ty, e1, pk.now rp (kB_some e2) (.bl _)⟩
  cases d with
  | non => have := r.non_inv; subst this; exact .inl (fin (.base .non) (ok.low 0 (by decide)) e)
  | bl b => have := r.bl_inv; subst this; exact .inl (fin (.base (.bl _)) (ok.low 1 (by decide)) e)
  | int i => have := r.int_inv; subst this; exact .inl (fin (.base (.int _)) (ok.low 2 (by decide)) e)
  | str z => have := r.str_inv.1; subst this; exact .inl (fin (.base (.str _)) (ok.low 3 (by decide)) e)
  | tup l => obtain ⟨a, vs, ev, f, e1, q, n⟩ := r.tup_inv; subst ev; exact .inl (fin (.base (.tup e1)) (ok.low 4 (by decide)) e)
  | rng lo hi => obtain ⟨n, e⟩ := gOk_some (show gOk lo hi _ = some O from e); obtain ⟨i, ev, _⟩ := r.rng_inv n; subst ev; exact .inl (fin (.base (.int _)) (ok.low 2 (by decide)) e)
  | lst l => obtain ⟨a, vs, ev, f, e1, q, n⟩ := r.lst_inv; subst ev; exact .inl (fin (.base (.lst e1)) (ok.low 5 (by decide)) e)
  | ins ci l =>
    obtain ⟨a, dx, vs, ev, st, q⟩ := r.slt
    obtain ⟨b, e1⟩ := bsel_some (show bsel (Nat.blt ci nc) (kB (anyNat (Nat.add 10 ci) acc) h k) none = some O from e)
    have hc : ci < nc := Nat.le_of_ble_eq_true b
    obtain ⟨k1, k2, k3⟩ := ok.own ci hc
    refine .inr ⟨a, _, dx, _, c, _, by rw [ev], ?_, ?_, st, k2, k3, k1, pk.now rp (kB_some e1) (.bl _)⟩
    · cases hu <;> rfl
    · intro w hw
      cases hu with
      | ty n => exact hw
      | own C => exact hw
  | ref i =>
    obtain ⟨mo, em, e1⟩ := nthK_some (show nthK h i (fun mo => mLst mo fun _ _ => kB (anyNat 5 acc) h k) = some O from e)
    obtain ⟨n, l, el, e2⟩ := mLst_some e1
    rw [el] at em
    obtain ⟨a, ea, b1, b2, vs, e3, q⟩ := rp.cells i _ em
    obtain ⟨a', ev, ea'⟩ := r.ref_inv
    rw [ea] at ea'
    cases ea'
    subst ev
    exact .inl (fin (.base (.lst e3)) (ok.low 5 (by decide)) e2)
section
variable {nm cn : Str} {p p2 pos : Pos} {e : Expr} {ce : Code} {nc : Nat} {acc : List Nat}
theorem snd_isi {c : V} {u : Value} (ok : IsiOk X.K T nc u acc) (hu : ClsV c u) (hc : PE X (.Name cn p2) (tC c)) (hg : Gl X "isinstance") (hm : X.mg "isinstance" = none) (he : Snd T X W e ce)
    (hst : starEach [e, .Name cn p2] X.env = (false, eval e X.env) :: starEach [.Name cn p2] X.env) (hst2 : starEach [.Name cn p2] X.env = (false, eval (.Name cn p2) X.env) :: starEach [] X.env) (hpl : (backTo pos (starEach [.Name cn p2] X.env)).any (·.1) = false) :
    Snd T X W (.Call (.Name "isinstance" p) [e, .Name cn p2] [] pos) (eUn (oIsi nc acc) ce) := by
  refine PE.imp (pe_callB (CallR.or call_isi (call_isiSl u)) hg hm (by rfl) (pa_cons he (pa_cons hc pa_nil hst2) hst) (by decide) (by decide) hst hpl) fun σ H Q hq => ?_
  obtain ⟨O, ρ, F, s, h, k, x, rp, rs, e, pk, px⟩ := hq
  refine RdE.seq rp rs e px fun u1 h1 ρ1 F1 H1 u' e1 l1 r1 ru rs1 px1 => ?_
  exact isi_of ok hu r1 ru e1 (pk.le l1)
end
end SW
end
section
/-! The order of data; sorted. -/
namespace SW
open PySem PySem.Spec PyProof.Rows L2 SlX
variable {T : Tab} {O : Out} {ρ ρ1 ρ' : List Addr} {F F1 F' : Fz} {H H1 H' : Hp} {h h1 : CH} {s : SW.St} {σ : L2.St} {k : K} {x : KX} {Q : VK} {W : WX} {X : Cx} {E : XK}
/-- what data are made of: ints, truth values, texts; a tuple, a list of one kind; of given kinds -/
inductive Ty where
  | I | B | S | HT (t : Ty) | HL (t : Ty) | PT (ts : List Ty) | PL (ts : List Ty)
noncomputable section
def tyI (t : Ty) : Bool := @Ty.rec (fun _ => Bool) (fun _ => Unit) true false false (fun _ _ => false) (fun _ _ => false) (fun _ _ => false) (fun _ _ => false) () (fun _ _ _ _ => ()) t
def tyB (t : Ty) : Bool := @Ty.rec (fun _ => Bool) (fun _ => Unit) false true false (fun _ _ => false) (fun _ _ => false) (fun _ _ => false) (fun _ _ => false) () (fun _ _ _ _ => ()) t
def tyS (t : Ty) : Bool := @Ty.rec (fun _ => Bool) (fun _ => Unit) false false true (fun _ _ => false) (fun _ _ => false) (fun _ _ => false) (fun _ _ => false) () (fun _ _ _ _ => ()) t
/-- the kinds of a row: one for all (left), one for each (right) -/
abbrev Row := Sum Ty (List Ty)
def tyT (t : Ty) (f : Row → Bool) : Bool := @Ty.rec (fun _ => Bool) (fun _ => Unit) false false false (fun u _ => f (.inl u)) (fun _ _ => false) (fun ts _ => f (.inr ts)) (fun _ _ => false) () (fun _ _ _ _ => ()) t
def tyL (t : Ty) (f : Row → Bool) : Bool := @Ty.rec (fun _ => Bool) (fun _ => Unit) false false false (fun _ _ => false) (fun u _ => f (.inl u)) (fun _ _ => false) (fun ts _ => f (.inr ts)) () (fun _ _ _ _ => ()) t
def rowE (r : Row) : Bool := @Sum.rec Ty (List Ty) (fun _ => Bool) (fun _ => true) (fun ts => @List.rec Ty (fun _ => Bool) true (fun _ _ _ => false) ts) r
def rowC (r : Row) (f : Ty → Bool) (g : Row → Bool) : Bool := @Sum.rec Ty (List Ty) (fun _ => Bool) (fun t => @Bool.rec (fun _ => Bool) false (g (.inl t)) (f t)) (fun ts => @List.rec Ty (fun _ => Bool) false (fun t ts _ => @Bool.rec (fun _ => Bool) false (g (.inr ts)) (f t)) ts) r
def chk (d : DV) : Ty → Bool := @DV.rec (fun _ => Ty → Bool) (fun _ => Row → Bool) (fun _ => false) (fun _ t => tyB t) (fun _ t => tyI t) (fun _ t => tyS t) (fun _ ih t => tyT t ih) (fun _ ih t => tyL t ih) (fun _ _ _ _ => false) (fun _ _ _ => false) (fun _ _ => false) (fun r => rowE r) (fun _ _ a b r => rowC r a b) d
def chks (l : List DV) : Row → Bool := @DV.rec_1 (fun _ => Ty → Bool) (fun _ => Row → Bool) (fun _ => false) (fun _ t => tyB t) (fun _ t => tyI t) (fun _ t => tyS t) (fun _ ih t => tyT t ih) (fun _ ih t => tyL t ih) (fun _ _ _ _ => false) (fun _ _ _ => false) (fun _ _ => false) (fun r => rowE r) (fun _ _ a b r => rowC r a b) l
def nlLt (a b : List Nat) : Bool := @List.rec Nat (fun _ => List Nat → Bool) (fun b => @List.rec Nat (fun _ => Bool) false (fun _ _ _ => true) b) (fun x _ ih b => @List.rec Nat (fun _ => Bool) false (fun y ys _ => @Bool.rec (fun _ => Bool) (@Bool.rec (fun _ => Bool) false (ih ys) (Nat.beq x y)) true (Nat.blt x y)) b) a b
/-- the order of data that are alike -/
def ltD (d e : DV) : Bool := @DV.rec (fun _ => DV → Bool) (fun _ => List DV → Bool) (fun _ => false) (fun b e => cBl e (fun c => iLt (b2 b) (b2 c)) (fun _ => false)) (fun i e => cBl e (fun _ => false) (fun j => iLt i j)) (fun s e => cStr e (fun t => nlLt s t))
  (fun _ ih e => cTup e ih) (fun _ ih e => cLst e ih) (fun _ _ _ _ => false) (fun _ _ _ => false) (fun _ _ => false)
  (fun m => @List.rec DV (fun _ => Bool) false (fun _ _ _ => true) m) (fun d _ a b m => @List.rec DV (fun _ => Bool) false (fun y ys _ => @Bool.rec (fun _ => Bool) (a y) (b ys) (eqD d y)) m) d e
def ltDs (l : List DV) : List DV → Bool := @DV.rec_1 (fun _ => DV → Bool) (fun _ => List DV → Bool) (fun _ => false) (fun b e => cBl e (fun c => iLt (b2 b) (b2 c)) (fun _ => false)) (fun i e => cBl e (fun _ => false) (fun j => iLt i j)) (fun s e => cStr e (fun t => nlLt s t))
  (fun _ ih e => cTup e ih) (fun _ ih e => cLst e ih) (fun _ _ _ _ => false) (fun _ _ _ => false) (fun _ _ => false)
  (fun m => @List.rec DV (fun _ => Bool) false (fun _ _ _ => true) m) (fun d _ a b m => @List.rec DV (fun _ => Bool) false (fun y ys _ => @Bool.rec (fun _ => Bool) (a y) (b ys) (eqD d y)) m) l
/-- the kind of data, as the first items tell -/
def infer (d : DV) : Ty := @DV.rec (fun _ => Ty) (fun _ => List Ty × Row) .I (fun _ => .B) (fun _ => .I) (fun _ => .S)
  (fun l ih => @Bool.rec (fun _ => Ty) (.PT ih.1) (@Sum.rec Ty (List Ty) (fun _ => Ty) (fun t => .HT t) (fun _ => .HT .I) ih.2) (chks l ih.2))
  (fun l ih => @Bool.rec (fun _ => Ty) (.PL ih.1) (@Sum.rec Ty (List Ty) (fun _ => Ty) (fun t => .HL t) (fun _ => .HL .I) ih.2) (chks l ih.2)) (fun _ _ _ => .I) (fun _ _ => .I) (fun _ => .I) ([], .inl .I) (fun _ _ a b => (a :: b.1, .inl a)) d
def allTy (l : List DV) (t : Ty) : Bool := @List.rec DV (fun _ => Bool) true (fun d _ ih => @Bool.rec (fun _ => Bool) false ih (chk d t)) l
def insK (x : DV) (l : List DV) (k : List DV → A) : A := @List.rec DV (fun _ => (List DV → A) → A) (fun k => k [x]) (fun y ys ih k => bsel (ltD y x) (ih fun l => k (y :: l)) (k (x :: y :: ys))) l k
def sortK (l : List DV) (k : List DV → A) : A := @List.rec DV (fun _ => (List DV → A) → A) (fun k => k []) (fun x _ ih k => ih fun l => insK x l k) l k
/-- sortable: not empty tuples -/
def ne1 (d : DV) : Bool := @DV.rec (fun _ => Bool) (fun _ => Bool) true (fun _ => true) (fun _ => true) (fun _ => true) (fun _ ih => ih) (fun _ _ => true) (fun _ _ _ => false) (fun _ _ => false) (fun _ => false) false (fun _ _ _ _ => true) d
def allNe1 (l : List DV) : Bool := @List.rec DV (fun _ => Bool) true (fun d _ ih => @Bool.rec (fun _ => Bool) false ih (ne1 d)) l
def srt (l : List DV) (k : List DV → A) : A := @List.rec DV (fun _ => A) (k []) (fun d _ _ => bsel (allTy l (infer d)) (bsel (allNe1 l) (bsel (deps l 50) (sortK l k) none) none) none) l
def oSorted (mk : Bool) : OpL := fun ds h k => arg1 ds fun d => dList d h fun l => srt l fun l => mkL mk l h k
end
theorem chk_tup (l : List DV) (t : Ty) : chk (.tup l) t = tyT t (chks l) := rfl
theorem chk_lst (l : List DV) (t : Ty) : chk (.lst l) t = tyL t (chks l) := rfl
theorem chks_nil (r : Row) : chks [] r = rowE r := rfl
theorem chks_cons (d : DV) (l : List DV) (r : Row) : chks (d :: l) r = rowC r (chk d) (chks l) := rfl
theorem ltDs_nil (m : List DV) : ltDs [] m = @List.rec DV (fun _ => Bool) false (fun _ _ _ => true) m := rfl
theorem ltDs_cons (d e : DV) (l m : List DV) : ltDs (d :: l) (e :: m) = if eqD d e = true then ltDs l m else ltD d e := by
  show @Bool.rec (fun _ => Bool) (ltD d e) (ltDs l m) (eqD d e) = _
  cases eqD d e <;> rfl
theorem tyT_some {t : Ty} {f : Row → Bool} (h : tyT t f = true) : (∃ u, t = .HT u ∧ f (.inl u) = true) ∨ ∃ ts, t = .PT ts ∧ f (.inr ts) = true := by
  cases t with
  | HT u => exact .inl ⟨u, rfl, h⟩
  | PT ts => exact .inr ⟨ts, rfl, h⟩
  | _ => cases h
theorem tyL_some {t : Ty} {f : Row → Bool} (h : tyL t f = true) : (∃ u, t = .HL u ∧ f (.inl u) = true) ∨ ∃ ts, t = .PL ts ∧ f (.inr ts) = true := by
  cases t with
  | HL u => exact .inl ⟨u, rfl, h⟩
  | PL ts => exact .inr ⟨ts, rfl, h⟩
  | _ => cases h
/-- a row's first kind and what is left -/
theorem rowC_some {r : Row} {f : Ty → Bool} {g : Row → Bool} (h : rowC r f g = true) : ∃ t r', (r = .inl t ∧ r' = .inl t ∨ ∃ ts, r = .inr (t :: ts) ∧ r' = .inr ts) ∧ f t = true ∧ g r' = true := by
  cases r with
  | inl t =>
    have h' : (f t && g (.inl t)) = true := by rw [← brec_and]; exact h
    obtain ⟨a, b⟩ := Bool.and_eq_true_iff.mp h'
    exact ⟨t, _, .inl ⟨rfl, rfl⟩, a, b⟩
  | inr ts =>
    cases ts with
    | nil => cases h
    | cons t ts =>
      have h' : (f t && g (.inr ts)) = true := by rw [← brec_and]; exact h
      obtain ⟨a, b⟩ := Bool.and_eq_true_iff.mp h'
      exact ⟨t, _, .inr ⟨ts, rfl, rfl⟩, a, b⟩
theorem row_same {r r1 r2 : Row} {t t2 : Ty} (h1 : r = .inl t ∧ r1 = .inl t ∨ ∃ ts, r = .inr (t :: ts) ∧ r1 = .inr ts) (h2 : r = .inl t2 ∧ r2 = .inl t2 ∨ ∃ ts, r = .inr (t2 :: ts) ∧ r2 = .inr ts) : t = t2 ∧ r1 = r2 := by
  rcases h1 with ⟨a, b⟩ | ⟨ts, a, b⟩ <;> rcases h2 with ⟨c, d⟩ | ⟨ts', c, d⟩
  · rw [a] at c; cases c; exact ⟨rfl, b.trans d.symm⟩
  · rw [a] at c; cases c
  · rw [a] at c; cases c
  · rw [a] at c; cases c; exact ⟨rfl, b.trans d.symm⟩
theorem nlLt_eq : ∀ a b : List Nat, nlLt a b = decide (a < b)
  | [], [] => rfl
  | [], _ :: _ => rfl
  | _ :: _, [] => rfl
  | x :: a, y :: b => by
    show @Bool.rec (fun _ => Bool) (@Bool.rec (fun _ => Bool) false (nlLt a b) (Nat.beq x y)) true (Nat.blt x y) = _
    rw [nlLt_eq a b]
    have e : ((x :: a) < (y :: b)) ↔ x < y ∨ (x = y ∧ a < b) := by
      constructor
      · intro h
        exact List.cons_lt_cons_iff.mp h
      · intro h
        exact List.cons_lt_cons_iff.mpr h
    by_cases z : x < y
    · have hb : Nat.blt x y = true := by unfold Nat.blt; exact Nat.ble_eq_true_of_le z
      rw [hb]
      exact (decide_eq_true (e.mpr (.inl z))).symm
    · have hb : Nat.blt x y = false := by
        cases q : Nat.blt x y with
        | false => rfl
        | true => exact absurd (Nat.le_of_ble_eq_true q) z
      rw [hb]
      by_cases w : x = y
      · subst w
        rw [show Nat.beq x x = true from Nat.beq_refl x]
        show decide (a < b) = _
        congr 1
        exact propext ⟨fun h => e.mpr (.inr ⟨rfl, h⟩), fun h => (e.mp h).elim (fun q => absurd q z) fun q => q.2⟩
      · have hq : Nat.beq x y = false := by
          cases q : Nat.beq x y with
          | false => rfl
          | true => exact absurd (Nat.eq_of_beq_eq_true q) w
        rw [hq]
        exact (decide_eq_false fun h => (e.mp h).elim (fun q => z q) fun q => w q.1).symm
mutual
theorem alike_of : ∀ (d e : DV) (t : Ty), chk d t = true → chk e t = true → PySem.W.alike (toPy d) (toPy e) = true ∧ PySem.W.dataLt (toPy d) (toPy e) = ltD d e ∧ eqD d e = PyData.eqv (toPy d) (toPy e)
  | .bl b, e, t, h1, h2 => by
    cases t with
    | B => cases e with
      | bl c =>
        refine ⟨rfl, (PySem.W.dataLt_bool b c).trans ?_, bEq_eq b c⟩
        show _ = iLt (b2 b) (b2 c)
        rw [iLt_eq]
        cases b <;> cases c <;> rfl
      | tup l => rw [chk_tup] at h2; obtain ⟨u, z, _⟩ | ⟨u, z, _⟩ := tyT_some h2 <;> cases z
      | lst l => rw [chk_lst] at h2; obtain ⟨u, z, _⟩ | ⟨u, z, _⟩ := tyL_some h2 <;> cases z
      | _ => cases h2
    | _ => cases h1
  | .int b, e, t, h1, h2 => by
    cases t with
    | I => cases e with
      | int c =>
        refine ⟨rfl, (PySem.W.dataLt_int b c).trans ?_, iEq_eq b c⟩
        exact (iLt_eq b c).symm
      | tup l => rw [chk_tup] at h2; obtain ⟨u, z, _⟩ | ⟨u, z, _⟩ := tyT_some h2 <;> cases z
      | lst l => rw [chk_lst] at h2; obtain ⟨u, z, _⟩ | ⟨u, z, _⟩ := tyL_some h2 <;> cases z
      | _ => cases h2
    | _ => cases h1
  | .str b, e, t, h1, h2 => by
    cases t with
    | S => cases e with
      | str c =>
        refine ⟨rfl, (PySem.W.dataLt_str (tx b) (tx c)).trans ?_, (tx_beq b c).symm⟩
        exact (nlLt_eq b c).symm
      | tup l => rw [chk_tup] at h2; obtain ⟨u, z, _⟩ | ⟨u, z, _⟩ := tyT_some h2 <;> cases z
      | lst l => rw [chk_lst] at h2; obtain ⟨u, z, _⟩ | ⟨u, z, _⟩ := tyL_some h2 <;> cases z
      | _ => cases h2
    | _ => cases h1
  | .tup l, e, t, h1, h2 => by
    rw [chk_tup] at h1
    have key : ∃ r m, e = .tup m ∧ chks l r = true ∧ chks m r = true := by
      cases e with
      | tup m =>
        rw [chk_tup] at h2
        rcases tyT_some h1 with ⟨u, z, a⟩ | ⟨u, z, a⟩ <;> rcases tyT_some h2 with ⟨u', z', a'⟩ | ⟨u', z', a'⟩
        · rw [z] at z'; cases z'; exact ⟨_, m, rfl, a, a'⟩
        · rw [z] at z'; cases z'
        · rw [z] at z'; cases z'
        · rw [z] at z'; cases z'; exact ⟨_, m, rfl, a, a'⟩
      | lst m => rw [chk_lst] at h2; rcases tyT_some h1 with ⟨u, z, a⟩ | ⟨u, z, a⟩ <;> rcases tyL_some h2 with ⟨u', z', a'⟩ | ⟨u', z', a'⟩ <;> (rw [z] at z'; cases z')
      | bl b => rcases tyT_some h1 with ⟨u, z, a⟩ | ⟨u, z, a⟩ <;> (subst z; cases h2)
      | int b => rcases tyT_some h1 with ⟨u, z, a⟩ | ⟨u, z, a⟩ <;> (subst z; cases h2)
      | str b => rcases tyT_some h1 with ⟨u, z, a⟩ | ⟨u, z, a⟩ <;> (subst z; cases h2)
      | _ => cases h2
    obtain ⟨r, m, rfl, a, b⟩ := key
    obtain ⟨q1, q2, q3⟩ := alikes_of l m r a b
    exact ⟨q1, (PySem.W.dataLt_tuple _ _).trans q2, q3⟩
  | .lst l, e, t, h1, h2 => by
    rw [chk_lst] at h1
    have key : ∃ r m, e = .lst m ∧ chks l r = true ∧ chks m r = true := by
      cases e with
      | lst m =>
        rw [chk_lst] at h2
        rcases tyL_some h1 with ⟨u, z, a⟩ | ⟨u, z, a⟩ <;> rcases tyL_some h2 with ⟨u', z', a'⟩ | ⟨u', z', a'⟩
        · rw [z] at z'; cases z'; exact ⟨_, m, rfl, a, a'⟩
        · rw [z] at z'; cases z'
        · rw [z] at z'; cases z'
        · rw [z] at z'; cases z'; exact ⟨_, m, rfl, a, a'⟩
      | tup m => rw [chk_tup] at h2; rcases tyL_some h1 with ⟨u, z, a⟩ | ⟨u, z, a⟩ <;> rcases tyT_some h2 with ⟨u', z', a'⟩ | ⟨u', z', a'⟩ <;> (rw [z] at z'; cases z')
      | bl b => rcases tyL_some h1 with ⟨u, z, a⟩ | ⟨u, z, a⟩ <;> (subst z; cases h2)
      | int b => rcases tyL_some h1 with ⟨u, z, a⟩ | ⟨u, z, a⟩ <;> (subst z; cases h2)
      | str b => rcases tyL_some h1 with ⟨u, z, a⟩ | ⟨u, z, a⟩ <;> (subst z; cases h2)
      | _ => cases h2
    obtain ⟨r, m, rfl, a, b⟩ := key
    obtain ⟨q1, q2, q3⟩ := alikes_of l m r a b
    exact ⟨q1, (PySem.W.dataLt_list _ _).trans q2, q3⟩
  | .non, _, _, h1, _ => by cases h1
  | .ins _ _, _, _, h1, _ => by cases h1
  | .rng _ _, _, _, h1, _ => by cases h1
  | .ref _, _, _, h1, _ => by cases h1
theorem alikes_of : ∀ (l m : List DV) (r : Row), chks l r = true → chks m r = true → PySem.W.alikeAll (toPys l) (toPys m) = true ∧ PyProof.Rows.lexLt PyProof.Rows.itemOrd (PySem.W.keyToksAll (toPys l)) (PySem.W.keyToksAll (toPys m)) = ltDs l m ∧ eqDs l m = PyData.eqvAll (toPys l) (toPys m)
  | [], [], _, _, _ => ⟨rfl, rfl, rfl⟩
  | [], _ :: _, _, _, _ => ⟨rfl, by first | rfl | (simp [toPys, PySem.W.keyToksAll, PyProof.Rows.lexLt, ltDs_nil]; decide), rfl⟩
  | _ :: _, [], _, _, _ => ⟨rfl, by first | rfl | (simp [toPys, PySem.W.keyToksAll, PyProof.Rows.lexLt, ltDs_nil]; decide), rfl⟩
  | d :: l, e :: m, r, h1, h2 => by
    rw [chks_cons] at h1 h2
    obtain ⟨t, r1, z1, a1, b1⟩ := rowC_some h1
    obtain ⟨t2, r2, z2, a2, b2⟩ := rowC_some h2
    obtain ⟨e1, e2⟩ := row_same z1 z2
    subst e1 e2
    obtain ⟨q1, q2, q5⟩ := alike_of d e t a1 a2
    obtain ⟨q3, q4, q6⟩ := alikes_of l m r1 b1 b2
    refine ⟨by show (PySem.W.alike (toPy d) (toPy e) && PySem.W.alikeAll (toPys l) (toPys m)) = true; rw [q1, q3]; rfl, ?_, ?_⟩
    · rw [ltDs_cons]
      show PyProof.Rows.lexLt PyProof.Rows.itemOrd (PySem.W.keyToksAll (toPy d :: toPys l)) (PySem.W.keyToksAll (toPy e :: toPys m)) = _
      rw [PySem.W.dataLt_cons q1, q4, q2, q5]
    · rw [eqDs_cc, q5, q6]
      rfl
end
/-! ### sorting, as lists -/
def insG {α : Type} (le : α → α → Bool) (x : α) : List α → List α
  | [] => [x]
  | y :: ys => if le x y = true then x :: y :: ys else y :: insG le x ys
def sortG {α : Type} (le : α → α → Bool) : List α → List α
  | [] => []
  | x :: l => insG le x (sortG le l)
theorem insG_mem {α : Type} {le : α → α → Bool} {x a : α} : ∀ {l : List α}, a ∈ insG le x l ↔ a = x ∨ a ∈ l
  | [] => by simp [insG]
  | y :: ys => by
    unfold insG
    split
    · simp
    · simp only [List.mem_cons, insG_mem (l := ys)]
      constructor
      · rintro (h | h | h) <;> simp [h]
      · rintro (h | h | h) <;> simp [h]
theorem sortG_mem {α : Type} {le : α → α → Bool} {a : α} : ∀ {l : List α}, a ∈ sortG le l ↔ a ∈ l
  | [] => Iff.rfl
  | x :: l => by
    show a ∈ insG le x (sortG le l) ↔ _
    rw [insG_mem, sortG_mem (l := l), List.mem_cons]
theorem insG_pw {α : Type} {le : α → α → Bool} (h : PySem.W.TotalLe le) {x : α} : ∀ {l : List α}, l.Pairwise (fun a b => le a b = true) → (insG le x l).Pairwise (fun a b => le a b = true)
  | [], _ => by simp [insG]
  | y :: ys, p => by
    unfold insG
    obtain ⟨p1, p2⟩ := List.pairwise_cons.mp p
    split
    · rename_i hx
      refine List.pairwise_cons.mpr ⟨fun z hz => ?_, p⟩
      rcases List.mem_cons.mp hz with q | q
      · rw [q]; exact hx
      · exact h.trans _ _ _ hx (p1 z q)
    · rename_i hx
      have hy : le y x = true := (h.total x y).elim (fun q => absurd q hx) id
      refine List.pairwise_cons.mpr ⟨fun z hz => ?_, insG_pw h p2⟩
      rcases insG_mem.mp hz with q | q
      · rw [q]; exact hy
      · exact p1 z q
theorem sortG_pw {α : Type} {le : α → α → Bool} (h : PySem.W.TotalLe le) : ∀ l : List α, (sortG le l).Pairwise (fun a b => le a b = true)
  | [] => .nil
  | x :: l => insG_pw h (sortG_pw h l)
theorem insG_filter {α : Type} {le : α → α → Bool} (h : PySem.W.TotalLe le) (c : α) {x : α} : ∀ {l : List α}, l.Pairwise (fun a b => le a b = true) → (insG le x l).filter (PySem.W.sameRank le c) = (x :: l).filter (PySem.W.sameRank le c)
  | [], _ => rfl
  | y :: ys, p => by
    unfold insG
    split
    · rfl
    · rename_i hx
      obtain ⟨p1, p2⟩ := List.pairwise_cons.mp p
      have ih := insG_filter h c (x := x) p2
      have e1 : (y :: insG le x ys).filter (PySem.W.sameRank le c) = if PySem.W.sameRank le c y = true then y :: (x :: ys).filter (PySem.W.sameRank le c) else (x :: ys).filter (PySem.W.sameRank le c) := by
        rw [List.filter_cons, ih]
      rw [e1]
      by_cases q : PySem.W.sameRank le c x = true
      · have ny : PySem.W.sameRank le c y = false := by
          cases z : PySem.W.sameRank le c y with
          | false => rfl
          | true =>
            unfold PySem.W.sameRank at q z
            rw [Bool.and_eq_true] at q z
            exact absurd (h.trans _ _ _ q.2 z.1) hx
        rw [if_neg (by rw [ny]; exact Bool.false_ne_true)]
        simp [List.filter_cons, q, ny]
      · have q' : PySem.W.sameRank le c x = false := by simpa using q
        simp [List.filter_cons, q']
theorem sortG_filter {α : Type} {le : α → α → Bool} (h : PySem.W.TotalLe le) (c : α) : ∀ l : List α, (sortG le l).filter (PySem.W.sameRank le c) = l.filter (PySem.W.sameRank le c)
  | [] => rfl
  | x :: l => by
    show (insG le x (sortG le l)).filter _ = _
    rw [insG_filter h c (sortG_pw h l), List.filter_cons, List.filter_cons, sortG_filter h c l]
theorem sortG_eq {α : Type} {le : α → α → Bool} (h : PySem.W.TotalLe le) (l : List α) : sortG le l = l.mergeSort le := PySem.W.sort_unique h (sortG_pw h l) fun c => sortG_filter h c l
abbrev leD : DV → DV → Bool := PySem.W.dataLe false toPy
theorem leD_total : PySem.W.TotalLe leD := PySem.W.sortLe_total _ _ _
theorem leD_eq {d e : DV} {t : Ty} (h1 : chk d t = true) (h2 : chk e t = true) : leD d e = !ltD e d := by
  show (!PySem.W.dataLt (toPy e) (toPy d)) = _
  rw [(alike_of e d t h2 h1).2.1]
theorem insK_eq {t : Ty} {x : DV} (hx : chk x t = true) : ∀ {l : List DV} {k : List DV → A}, (∀ y ∈ l, chk y t = true) → insK x l k = k (insG leD x l)
  | [], k, _ => rfl
  | y :: ys, k, h => by
    have hy := h y (by simp)
    show bsel (ltD y x) (insK x ys fun l => k (y :: l)) (k (x :: y :: ys)) = _
    unfold insG
    rw [leD_eq hx hy]
    cases ltD y x with
    | true =>
      rw [if_neg (by simp)]
      show insK x ys (fun l => k (y :: l)) = _
      rw [insK_eq hx fun z hz => h z (List.mem_cons_of_mem _ hz)]
    | false => rfl
theorem sortK_eq {t : Ty} : ∀ {l : List DV} {k : List DV → A}, (∀ y ∈ l, chk y t = true) → sortK l k = k (sortG leD l)
  | [], k, _ => rfl
  | x :: l, k, h => by
    show sortK l (fun l => insK x l k) = _
    rw [sortK_eq fun z hz => h z (List.mem_cons_of_mem _ hz), insK_eq (t := t) (h x (by simp)) fun y hy => h y (List.mem_cons_of_mem _ (sortG_mem.mp hy))]
    rfl
theorem allTy_mem : ∀ {l : List DV} {t : Ty}, allTy l t = true → ∀ d ∈ l, chk d t = true
  | [], _, _, d, h => nomatch h
  | x :: l, t, e, d, h => by
    have e' : (chk x t && allTy l t) = true := by rw [← brec_and]; exact e
    obtain ⟨a, b⟩ := Bool.and_eq_true_iff.mp e'
    rcases List.mem_cons.mp h with q | q
    · rw [q]; exact a
    · exact allTy_mem b d q
theorem allNe1_mem : ∀ {l : List DV}, allNe1 l = true → ∀ d ∈ l, ne1 d = true
  | [], _, d, h => nomatch h
  | x :: l, e, d, h => by
    have e' : (ne1 x && allNe1 l) = true := by rw [← brec_and]; exact e
    obtain ⟨a, b⟩ := Bool.and_eq_true_iff.mp e'
    rcases List.mem_cons.mp h with q | q
    · rw [q]; exact a
    · exact allNe1_mem b d q
theorem deps_mem : ∀ {l : List DV} {n : Nat}, deps l n = true → ∀ d ∈ l, dep d n = true
  | [], _, _, d, h => nomatch h
  | x :: l, n, e, d, h => by
    have e' : (dep x n && deps l n) = true := by rw [← brec_and]; exact e
    obtain ⟨a, b⟩ := Bool.and_eq_true_iff.mp e'
    rcases List.mem_cons.mp h with q | q
    · rw [q]; exact a
    · exact deps_mem b d q
theorem srt_some {l : List DV} {k : List DV → A} (e : srt l k = some O) : ∃ t, (∀ d ∈ l, chk d t = true) ∧ (∀ d ∈ l, ne1 d = true) ∧ (∀ d ∈ l, dep d 50 = true) ∧ k (l.mergeSort leD) = some O := by
  cases l with
  | nil => exact ⟨.I, fun d h => (nomatch h), fun d h => (nomatch h), fun d h => (nomatch h), by rw [List.mergeSort_nil]; exact e⟩
  | cons x l =>
    obtain ⟨e1, e⟩ := bsel_some (show bsel (allTy (x :: l) (infer x)) _ none = some O from e)
    obtain ⟨e2, e⟩ := bsel_some e
    obtain ⟨e3, e⟩ := bsel_some e
    have h1 := allTy_mem e1
    rw [sortK_eq h1, sortG_eq leD_total] at e
    exact ⟨_, h1, allNe1_mem e2, deps_mem e3, e⟩
/-- what values stand for: items of data -/
def ItD (T : Tab) (F : Fz) (H : Hp) (u : Value) (d : DV) : Prop := ∃ v, RelV v u ∧ RVI T F H d v
theorem each_of : ∀ {l : List DV} {vs : List V} {us : List Value}, RVs T F H l vs → Vals vs us → PySem.W.EachIs (ItD T F H) us l
  | _, _, _, .nil, .nil => .nil
  | _, _, _, .cons r t, .cons q u => .cons ⟨_, q, r⟩ (each_of t u)
theorem of_each : ∀ {l : List DV} {us : List Value}, PySem.W.EachIs (ItD T F H) us l → ∃ vs, RVs T F H l vs ∧ Vals vs us
  | _, _, .nil => ⟨[], .nil, .nil⟩
  | _, _, .cons ⟨v, a, b⟩ t => let ⟨vs, c, d⟩ := of_each t; ⟨v :: vs, .cons b c, .cons a d⟩
theorem reads_of {pins : List (Addr × Obj)} {s : Shared} {d : DV} {n : Nat} {u : Value} (I : Inv X pins σ H s) (hd : dep d n = true) (r : ItD T F H u d) : ∃ as, Reads s.heap u (toPy d) as := by
  obtain ⟨v, a, b⟩ := r
  exact Dp.reads I (toPy d) v u (dp_of d n v hd b) a
theorem sortable_of {l : List DV} {t : Ty} (h1 : ∀ d ∈ l, chk d t = true) (h2 : ∀ d ∈ l, ne1 d = true) : PySem.W.Sortable (l.map toPy) := by
  cases t with
  | HT u =>
    refine .inl fun p hp => ?_
    obtain ⟨d, hd, rfl⟩ := List.mem_map.mp hp
    cases d with
    | tup m => cases m with
      | nil => cases h2 _ hd
      | cons y m => exact ⟨toPy y, toPys m, rfl⟩
    | lst m => have := h1 _ hd; rw [chk_lst] at this; rcases tyL_some this with ⟨u, z, _⟩ | ⟨u, z, _⟩ <;> cases z
    | _ => cases h1 _ hd
  | PT u =>
    refine .inl fun p hp => ?_
    obtain ⟨d, hd, rfl⟩ := List.mem_map.mp hp
    cases d with
    | tup m => cases m with
      | nil => cases h2 _ hd
      | cons y m => exact ⟨toPy y, toPys m, rfl⟩
    | lst m => have := h1 _ hd; rw [chk_lst] at this; rcases tyL_some this with ⟨u, z, _⟩ | ⟨u, z, _⟩ <;> cases z
    | _ => cases h1 _ hd
  | _ =>
    refine .inr fun p hp => ?_
    obtain ⟨d, hd, rfl⟩ := List.mem_map.mp hp
    have hc := h1 _ hd
    cases d with
    | tup m => rw [chk_tup] at hc; rcases tyT_some hc with ⟨u, z, _⟩ | ⟨u, z, _⟩ <;> cases z
    | non => cases hc
    | ins _ _ => cases hc
    | rng _ _ => cases hc
    | ref _ => cases hc
    | _ => exact ⟨fun z => (by cases z), fun xs z => (by cases z)⟩
/-- sorted(l) of data, by values -/
def rSortD (T : Tab) : List V → Hp → VK → Prop := fun us H Q => ∃ (F : Fz) (a : Addr) (l : List DV) (vs : List V) (t : Ty), us = [.ref a] ∧ H a = some (.lst vs) ∧ RVs T F H l vs ∧ l.length ≤ mx ∧ (∀ d ∈ l, chk d t = true) ∧ (∀ d ∈ l, ne1 d = true) ∧ (∀ d ∈ l, dep d 50 = true) ∧
  ∀ (ws : List V) (p : Addr), RVs T F H (l.mergeSort leD) ws → H p = none → Q (.ref p) (upd H p (.lst ws))
theorem cr_sortD (hu : X.A.units + 64 < cLine) : CallR X (.builtin "sorted") (rSortD T) := by
  intro pins s σ H us ws Q I r h
  obtain ⟨F, a, l, vs, t, rfl, hs, rv, hn, h1, h2, h3, q⟩ := h
  obtain ⟨its, rvals, hl, hz⟩ := I.list (.inl (.inl hs))
  rw [Vals.ref1 r]
  have e := each_of rv rvals
  have er : PySem.W.EachIs (fun v b => ∃ as, Reads s.heap v (toPy b) as) its l := by
    have : ∀ {us : List Value} {l : List DV}, PySem.W.EachIs (ItD T F H) us l → (∀ d ∈ l, dep d 50 = true) → PySem.W.EachIs (fun v b => ∃ as, Reads s.heap v (toPy b) as) us l := by
      intro us l e
      induction e with
      | nil => intro _; exact .nil
      | cons a t ih => intro hd; exact .cons (reads_of I (hd _ (by simp)) a) (ih fun d hm => hd d (List.mem_cons_of_mem _ hm))
    exact this e h3
  have al : PySem.W.AllAlike (l.map toPy) := by
    intro d hd d' hd'
    obtain ⟨x, hx, rfl⟩ := List.mem_map.mp hd
    obtain ⟨y, hy, rfl⟩ := List.mem_map.mp hd'
    exact (alike_of x y t (h1 x hx) (h1 y hy)).1
  have hlen := rv.length
  have hlv := rvals.length
  refine PySem.W.sorted_data hl.isList e er al (sortable_of h1 h2) (line_of hn) (fun d hd => ?_) fun out ho eo => ?_
  · obtain ⟨i, hi, rfl⟩ := List.getElem_of_mem hd
    obtain ⟨v, hv, rvi⟩ := rv.at (List.getElem?_eq_getElem hi)
    have := (dep_ok l[i] 50 v (h3 _ hd) rvi).2
    omega
  · obtain ⟨ys, ry, rvy⟩ := of_each eo
    obtain ⟨ep, he'⟩ := PyProof.Rows.sortedAll_at s.heap its out.toArray
    have hy : ys.length ≤ sizeLine := by rw [rvy.length, ho]; exact line_of hn
    exact ⟨.ref _, upd H (s.heap.objs.size + 1) (.lst ys), I.laid (t' := s.toks) (fun _ _ => PyProof.Rows.sortedAll_old) (Nat.le_succ _) ⟨hy, out, ep, rvy, he'⟩, rfl, q ys _ ry (I.hok.fresh (Nat.le_succ _))⟩
theorem cb_sorted (mk : Bool) (hu : X.A.units + 64 < cLine) : CallR X (.builtin "sorted") (RdB T (oSorted mk)) := by
  refine CallR.imp (cr_sortD (T := T) hu) (rdb1 fun {O ρ F H h k Q d v} rp r e pk => ?_)
  obtain ⟨a, l, vs, ev, e1, q, n, e⟩ := dList_some e rp r
  obtain ⟨t, h1, h2, h3, e⟩ := srt_some e
  have nn : ∀ d ∈ l, nr d = true := fun d hd => by
    have := h3 d hd
    cases d <;> first | rfl | cases this
  subst ev
  have hlen : (l.mergeSort leD).length ≤ mx := by rw [List.length_mergeSort]; exact n
  exact ⟨F, a, l, vs, t, rfl, e1, q.imm nn, n, h1, h2, h3, fun ws p rw' hp => post_mk rp hlen rw'.rvl e pk p hp⟩
end SW
end
section
/-! The order of data by <, >, <=, >=. -/
namespace SW
open PySem PySem.Spec PyProof.Rows L2 SlX
variable {T : Tab} {O : Out} {ρ ρ1 ρ' : List Addr} {F F1 F' : Fz} {H H1 H' : Hp} {h h1 : CH} {s : SW.St} {σ : L2.St} {k : K} {x : KX} {Q : VK} {W : WX} {X : Cx} {E : XK}
noncomputable section
def cmpG (f : DV → DV → Bool) (d e : DV) (h : CH) (k : K) : A := bsel (dep d 50) (bsel (dep e 50) (bsel (chk d (infer d)) (bsel (chk e (infer d)) (kB (f d e) h k) none) none) none) none
def cmpBy (fI : Int → Op2r) (f : DV → DV → Bool) : Op2 := opBy fI (fun s e h k => cmpG f (.str s) e h k) (fun l e h k => cmpG f (.tup l) e h k) (fun l e h k => cmpG f (.lst l) e h k) badR
def nB (b : Bool) : Bool := @Bool.rec (fun _ => Bool) true false b
def oLtX : Op2 := cmpBy ltI fun d e => ltD d e
def oGtX : Op2 := cmpBy gtI fun d e => ltD e d
def oLeX : Op2 := cmpBy leI fun d e => nB (ltD e d)
def oGeX : Op2 := cmpBy geI fun d e => nB (ltD d e)
end
theorem nB_eq (b : Bool) : nB b = !b := by cases b <;> rfl
theorem cmpG_ok {op : CmpOp} {f : DV → DV → Bool} (hu : X.A.units + 64 < cLine)
    (hl : ∀ {s : Shared} {a b : Value} {da db : PyData} {as bs : List Addr} {d e : DV} {Q : Value → Shared → Prop}, Reads s.heap a da as → Reads s.heap b db bs → PySem.W.alike da db = true → da ≠ .none → X.A.units + min da.depth db.depth < cLine → PySem.W.dataLt da db = ltD d e → PySem.W.dataLt db da = ltD e d → Q (.bool (f d e)) s → wpAny (model X.prog X.w) X.A (compareOp op a b) Q X.xe s)
    {pins : List (Addr × Obj)} {st : Shared} {x y : V} {v u : Value} {d e : DV} (I : Inv X pins σ H st) (rx : RelV x v) (ry : RelV y u) (rp : Rep T ρ F H h) (rd : RV T ρ F H d x) (re : RV T ρ F H e y) (hn : toPy d ≠ .none) (eq : cmpG f d e h k = some O) (pk : PostK T O ρ F H k Q) :
    wpAny (model X.prog X.w) X.A (compareOp op v u) (EP X pins σ Q) X.xe st := by
  obtain ⟨e1, eq⟩ := bsel_some (show bsel _ _ _ = some O from eq)
  obtain ⟨e2, eq⟩ := bsel_some eq
  obtain ⟨e3, eq⟩ := bsel_some eq
  obtain ⟨e4, eq⟩ := bsel_some eq
  have nn : ∀ {z : DV}, dep z 50 = true → nr z = true := fun {z} hz => by cases z <;> first | rfl | cases hz
  have rd' := rd.imm_of (nn e1)
  have re' := re.imm_of (nn e2)
  obtain ⟨as, ra⟩ := reads_of I e1 ⟨x, rx, rd'⟩
  obtain ⟨bs, rb⟩ := reads_of I e2 ⟨y, ry, re'⟩
  obtain ⟨al, l1, _⟩ := alike_of d e _ e3 e4
  obtain ⟨_, l2, _⟩ := alike_of e d _ e4 e3
  have d1 := (dep_ok d 50 x e1 rd').2
  exact hl ra rb al hn (by omega) l1 l2 ⟨.bl _, H, I, rfl, pk.now rp (kB_some eq) (.bl _)⟩
theorem or_cmp {op : CmpOp} {fI : Int → Op2r} {f : DV → DV → Bool} (hu : X.A.units + 64 < cLine) (hi : OpR X (compareOp op) (RdO T (opBy fI badS badL badL badR)))
    (hl : ∀ {s : Shared} {a b : Value} {da db : PyData} {as bs : List Addr} {d e : DV} {Q : Value → Shared → Prop}, Reads s.heap a da as → Reads s.heap b db bs → PySem.W.alike da db = true → da ≠ .none → X.A.units + min da.depth db.depth < cLine → PySem.W.dataLt da db = ltD d e → PySem.W.dataLt db da = ltD e d → Q (.bool (f d e)) s → wpAny (model X.prog X.w) X.A (compareOp op a b) Q X.xe s) :
    OpR X (compareOp op) (RdO T (cmpBy fI f)) := by
  intro pins st σ H x y v u Q I rx ry hq
  obtain ⟨O, ρ, F, d, e, h, k, rp, rd, re, eq, pk⟩ := hq
  cases d with
  | int i => exact hi pins st σ H x y v u Q I rx ry ⟨O, ρ, F, .int i, e, h, k, rp, rd, re, eq, pk⟩
  | str z => exact cmpG_ok hu hl I rx ry rp rd re (by intro z; cases z) eq pk
  | tup z => exact cmpG_ok hu hl I rx ry rp rd re (by intro z; cases z) eq pk
  | lst z => exact cmpG_ok hu hl I rx ry rp rd re (by intro z; cases z) eq pk
  | _ => cases eq
theorem or_ltX (hu : X.A.units + 64 < cLine) : OpR X (compareOp .Lt) (RdO T oLtX) := or_cmp hu or_lt fun ra rb al hn hd l1 _ q => PySem.W.lt_data ra rb al hn hd (by rw [l1]; exact q)
theorem or_gtX (hu : X.A.units + 64 < cLine) : OpR X (compareOp .Gt) (RdO T oGtX) := or_cmp hu or_gt fun ra rb al hn hd _ l2 q => PySem.W.gt_data ra rb al hn hd (by rw [l2]; exact q)
theorem or_leX (hu : X.A.units + 64 < cLine) : OpR X (compareOp .LtE) (RdO T oLeX) := or_cmp hu or_le fun ra rb al hn hd _ l2 q => PySem.W.le_data ra rb al hn hd (by rw [l2, ← nB_eq]; exact q)
theorem or_geX (hu : X.A.units + 64 < cLine) : OpR X (compareOp .GtE) (RdO T oGeX) := or_cmp hu or_ge fun ra rb al hn hd l1 _ q => PySem.W.ge_data ra rb al hn hd (by rw [l1, ← nB_eq]; exact q)
end SW
end
section
/-! Methods of built-in types. -/
namespace SW
open PySem PySem.Spec PyProof.Rows L2 SlX
variable {T : Tab} {O : Out} {ρ ρ1 ρ' : List Addr} {F F1 F' : Fz} {H H1 H' : Hp} {h h1 : CH} {s : SW.St} {σ : L2.St} {k : K} {x : KX} {Q : VK} {W : WX} {X : Cx} {E : XK}
abbrev OpM := DV → List DV → CH → K → A
noncomputable section
def noM : OpM := fun _ _ _ _ => none
def moKind (mo : MO) (x y : A) : A := @MO.rec (fun _ => A) (fun _ _ => x) (fun _ _ => y) (fun _ _ => none) none none none mo
/-- by the kind of the receiver: a text, a list, a dict -/
def kindK (d : DV) (h : CH) (zs zl zd : A) : A := @DV.rec (fun _ => A) (fun _ => Unit) none (fun _ => none) (fun _ => none) (fun _ => zs) (fun _ _ => none) (fun _ _ => zl) (fun _ _ _ => none) (fun _ _ => none) (fun i => nthK h i fun mo => moKind mo zl zd) () (fun _ _ _ _ => ()) d
def optM (o : Option OpM) (f : OpM → A) : A := @Option.rec OpM (fun _ => A) none f o
def eBm (fs fl fd : Option OpM) (o : Code) (a : LCode) : Code := fun s h k x => o s h (fun d h => kindK d h (optM fs fun m => a s h (fun ds h => m d ds h k) x) (optM fl fun m => a s h (fun ds h => m d ds h k) x) (optM fd fun m => a s h (fun ds h => m d ds h k) x)) x
end
/-- the value is of that built-in type, and has no dict of its own -/
def TyU (X : Cx) (ty : String) (x : V) (H : Hp) : Prop := ∀ (pins : List (Addr × Obj)) (s : Shared) (σ : L2.St) (v : Value), Inv X pins σ H s → RelV x v → s.TypeIs v ty ∧ ∀ a, v = .ref a → ∃ ob, s.heap.get? a = some ob ∧ ob.dict = none
theorem tyU_str {z : Str} : TyU X "str" (.str z) H := fun pins s σ v I r => by
  obtain ⟨t, rfl⟩ := r
  exact ⟨typeIs_str s z t, fun _ e => nomatch e⟩
theorem tyU_lst {a : Addr} {vs : List V} (e : H a = some (.lst vs)) : TyU X "list" (.ref a) H := fun pins s σ v I r => tyV_is I r (.inl ⟨rfl, vs, .inl (.inl e)⟩)
theorem dic_at {pins : List (Addr × Obj)} {s : Shared} {a : Addr} {o : Obj} (I : Inv X pins σ H s) (e : H a = some (obE a o)) : s.heap.get? a = some o := (I.hok a _ e).1
theorem tyU_dic {a : Addr} {l : List (DV × DV)} (d : DOk T ρ F H a l) : TyU X "dict" (.ref a) H := fun pins s σ v I r => by
  cases r
  obtain ⟨o, es, ep, h1, h2, h3, h4⟩ := d.obj
  have ho := dic_at I h1
  exact ⟨⟨o, ho, h2.1⟩, fun b e => by cases e; exact ⟨o, ho, h2.2.1⟩⟩
/-- what is known of a method of a built-in type -/
structure BMeth (X : Cx) (T : Tab) (ty : String) (nm : Str) (P : V → List V → Hp → VK → Prop) : Prop where
  pa : PlainAttrs ty
  at' : ∃ id, Slot ty nm id ∧ typeOf (.builtin id) = pure (.type "method_descriptor") ∧ MtR X id P
def RdM (T : Tab) (m : OpM) : V → List V → Hp → VK → Prop := fun v us H Q => ∃ (O : Out) (ρ : List Addr) (F : Fz) (d : DV) (ds : List DV) (h : CH) (k : K), Rep T ρ F H h ∧ RV T ρ F H d v ∧ RVl T ρ F H ds us ∧ m d ds h k = some O ∧ PostK T O ρ F H k Q
def tBmU (X : Cx) (T : Tab) (nm : Str) (to : TE) (t : TA) : TE := fun σ H Q => to σ H fun x H1 => ∃ ty P, BMeth X T ty nm P ∧ TyU X ty x H1 ∧ t σ H1 fun xs H2 => P x xs H2 Q
section
variable {o e : Expr} {es : List Expr} {to : TE} {t : TA} {name : Str} {apos cpos : Pos}
theorem pe_bmU (ho : PE X o to) (ha : PA X (e :: es) t) (hbase : attributeBase o name X.env (eval o X.env) = eval o X.env)
    (hfew : ((backTo cpos (starEach (e :: es) X.env)).all (fun x => !x.1) && (backToKw cpos (keywordEach [] X.env)).all (fun x => x.1.isSome)
      && decide ((e :: es).length + ([] : List Keyword).length + (if ([] : List Keyword).isEmpty then 0 else 1) < 30)) = true)
    (hline : (apos.endLine == cpos.line) = true) (hs : starEach (e :: es) X.env = (false, eval e X.env) :: starEach es X.env) (hplain : (backTo cpos (starEach es X.env)).any (·.1) = false) :
    PE X (.Call (.Attribute o name apos) (e :: es) [] cpos) (tBmU X T name to t) := by
  refine ⟨fun pins s σ H Q I h => ?_⟩
  refine wpAny_Call_method_late hbase hfew hline rfl (thn (ho.run pins s σ H _ I h) fun v s1 ⟨x, H1, I1, r1, ty, P, bm, tu, q1⟩ => ?_)
  obtain ⟨id, slot, hty, hm⟩ := bm.at'
  obtain ⟨h1, h2⟩ := tu pins s1 σ v I1 r1
  refine ⟨ty, id, bm.pa, slot, hty, h1, h2, ?_⟩
  have hA := ha.run cpos pins s1 σ H1 _ I1 q1
  rw [hs] at hA ⊢
  refine Calls.callWith_builtin (by show (false || (backTo cpos (starEach es X.env)).any (·.1)) = false; rw [hplain] <;> rfl) (Calls.evalArgs_plain ?_)
  exact thn hA fun us s2 ⟨vs, H2, I2, r2, q2⟩ => hm pins s2 σ H2 x vs v us Q I2 r1 r2 q2
theorem pe_bmU0 (ho : PE X o to) (hbase : attributeBase o name X.env (eval o X.env) = eval o X.env) (hline : (apos.endLine == cpos.line) = true) : PE X (.Call (.Attribute o name apos) [] [] cpos) (tBmU X T name to tNil) := by
  refine ⟨fun pins s σ H Q I h => ?_⟩
  refine wpAny_Call_method0_late hbase hline (thn (ho.run pins s σ H _ I h) fun v s1 ⟨x, H1, I1, r1, ty, P, bm, tu, q1⟩ => ?_)
  obtain ⟨id, slot, hty, hm⟩ := bm.at'
  obtain ⟨h1, h2⟩ := tu pins s1 σ v I1 r1
  exact ⟨ty, id, bm.pa, slot, hty, h1, h2, Calls.callWith_builtin rfl (PySem.evalArgs_none (hm pins s1 σ H1 x [] v [] Q I1 r1 .nil q1))⟩
theorem optM_some {o : Option OpM} {f : OpM → A} (e : optM o f = some O) : ∃ m, o = some m ∧ f m = some O := by
  cases o with
  | none => cases e
  | some m => exact ⟨m, rfl, e⟩
theorem moKind_some {mo : MO} {y z : A} (e : moKind mo y z = some O) : (∃ n l, mo = .lst n l ∧ y = some O) ∨ ∃ b l, mo = .dic b l ∧ z = some O := by
  cases mo with
  | lst n l => exact .inl ⟨n, l, rfl, e⟩
  | dic b l => exact .inr ⟨b, l, rfl, e⟩
  | _ => cases e
theorem kindK_some {d : DV} {v : V} {zs zl zd : A} (e : kindK d h zs zl zd = some O) (rp : Rep T ρ F H h) (r : RV T ρ F H d v) : (TyU X "str" v H ∧ zs = some O) ∨ (TyU X "list" v H ∧ zl = some O) ∨ (TyU X "dict" v H ∧ zd = some O) := by
  cases d with
  | str z => have := r.str_inv.1; subst this; exact .inl ⟨tyU_str, e⟩
  | lst l => obtain ⟨a, vs, ev, f, e1, q, n⟩ := r.lst_inv; subst ev; exact .inr (.inl ⟨tyU_lst e1, e⟩)
  | ref i =>
    obtain ⟨mo, em, e1⟩ := nthK_some (show nthK h i (fun mo => moKind mo zl zd) = some O from e)
    rcases moKind_some e1 with ⟨n, l, el, e2⟩ | ⟨b, l, el, e2⟩
    · rw [el] at em
      obtain ⟨a, ea, b1, b2, vs, e3, q⟩ := rp.cells i _ em
      obtain ⟨a', ev, ea'⟩ := r.ref_inv
      rw [ea] at ea'
      cases ea'
      subst ev
      exact .inr (.inl ⟨tyU_lst e3, e2⟩)
    · rw [el] at em
      obtain ⟨a, ea, _, m⟩ := rp.cells i _ em
      obtain ⟨a', ev, ea'⟩ := r.ref_inv
      rw [ea] at ea'
      cases ea'
      subst ev
      exact .inr (.inr ⟨tyU_dic m, e2⟩)
  | _ => cases e
theorem bm_of {name : Str} {co : Code} {ca : LCode} {fs fl fd : Option OpM} {L : Nat → Prop} {tA : TA} (hs : ∀ m, fs = some m → BMeth X T "str" name (RdM T m)) (hl : ∀ m, fl = some m → BMeth X T "list" name (RdM T m)) (hd : ∀ m, fd = some m → BMeth X T "dict" name (RdM T m))
    (hA : ∀ σ H P, RdA T W L ca σ H P → tA σ H P) (hq : RdE T W (eBm fs fl fd co ca) σ H Q) : tBmU X T name (RdE T W co) tA σ H Q := by
  obtain ⟨O, ρ, F, s, h, k, x, rp, rs, e, pk, px⟩ := hq
  refine RdE.seq rp rs e px fun u h1 ρ1 F1 H1 u' e1 l1 r1 ru rs1 px1 => ?_
  have fin : ∀ {ty : String} {m : OpM}, BMeth X T ty name (RdM T m) → TyU X ty u' H1 → ca s h1 (fun ds h => m u ds h k) x = some O → ∃ ty P, BMeth X T ty name P ∧ TyU X ty u' H1 ∧ tA σ H1 fun xs H2 => P u' xs H2 Q := fun {ty m} bm tu e2 =>
    ⟨ty, _, bm, tu, hA _ _ _ ⟨O, ρ1, F1, s, h1, _, x, r1, rs1, e2, fun ds h2 hl e3 ρ2 F2 H2 vs l2 r2 rvs => ⟨O, ρ2, F2, u, ds, h2, k, r2, ru.le l2, rvs, e3, pk.le (l1.trans l2)⟩, px1⟩⟩
  rcases kindK_some (X := X) e1 r1 ru with ⟨tu, e2⟩ | ⟨tu, e2⟩ | ⟨tu, e2⟩
  · obtain ⟨m, em, e3⟩ := optM_some e2
    exact fin (hs m em) tu e3
  · obtain ⟨m, em, e3⟩ := optM_some e2
    exact fin (hl m em) tu e3
  · obtain ⟨m, em, e3⟩ := optM_some e2
    exact fin (hd m em) tu e3
theorem snd_bm {co : Code} {ca : LCode} {fs fl fd : Option OpM} (h1 : ∀ m, fs = some m → BMeth X T "str" name (RdM T m)) (h2 : ∀ m, fl = some m → BMeth X T "list" name (RdM T m)) (h3 : ∀ m, fd = some m → BMeth X T "dict" name (RdM T m))
    (ho : Snd T X W o co) (ha : SndA T X W (e :: es) ca) (hbase : attributeBase o name X.env (eval o X.env) = eval o X.env)
    (hfew : ((backTo cpos (starEach (e :: es) X.env)).all (fun x => !x.1) && (backToKw cpos (keywordEach [] X.env)).all (fun x => x.1.isSome)
      && decide ((e :: es).length + ([] : List Keyword).length + (if ([] : List Keyword).isEmpty then 0 else 1) < 30)) = true)
    (hline : (apos.endLine == cpos.line) = true) (hs : starEach (e :: es) X.env = (false, eval e X.env) :: starEach es X.env) (hplain : (backTo cpos (starEach es X.env)).any (·.1) = false) :
    Snd T X W (.Call (.Attribute o name apos) (e :: es) [] cpos) (eBm fs fl fd co ca) :=
  PE.imp (pe_bmU (T := T) ho ha hbase hfew hline hs hplain) fun _ _ _ hq => bm_of h1 h2 h3 (fun _ _ _ z => z) hq
theorem snd_bm0 {co : Code} {fs fl fd : Option OpM} (h1 : ∀ m, fs = some m → BMeth X T "str" name (RdM T m)) (h2 : ∀ m, fl = some m → BMeth X T "list" name (RdM T m)) (h3 : ∀ m, fd = some m → BMeth X T "dict" name (RdM T m))
    (ho : Snd T X W o co) (hbase : attributeBase o name X.env (eval o X.env) = eval o X.env) (hline : (apos.endLine == cpos.line) = true) : Snd T X W (.Call (.Attribute o name apos) [] [] cpos) (eBm fs fl fd co aNil) :=
  PE.imp (pe_bmU0 (T := T) ho hbase hline) fun _ _ _ hq => bm_of (L := (· = 0)) (tA := tNil) h1 h2 h3 (fun σ H P z => by
    obtain ⟨O, ρ, F, s, h, k, x, rp, rs, e, pk, px⟩ := z
    exact pk [] h rfl e ρ F H [] .refl rp .nil) hq
end
/-! ### list methods -/
noncomputable section
def dCell (d : DV) (f : Nat → A) : A := @DV.rec (fun _ => A) (fun _ => Unit) none (fun _ => none) (fun _ => none) (fun _ => none) (fun _ _ => none) (fun _ _ => none) (fun _ _ _ => none) (fun _ _ => none) (fun i => f i) () (fun _ _ _ _ => ()) d
def putM (h : CH) (i n : Nat) (l : List DV) (k : CH → A) : A := putK h i (.lst n l) k
def mAppend : OpM := fun d ds h k => arg1 ds fun e => dCell d fun i => nthK h i fun mo => mLst mo fun n l => bsel (Nat.blt n 1000000) (appK l [e] fun l => forceN (Nat.succ n) fun n => putM h i n l fun h => k .non h) none
/-- the last item, and those ahead of it -/
def lastK (l : List DV) (k : DV → List DV → A) : A := revK l [] fun r => @List.rec DV (fun _ => A) none (fun d r _ => revK r [] fun l => k d l) r
def arg0 (ds : List DV) (y : A) : A := @List.rec DV (fun _ => A) y (fun _ _ _ => none) ds
def mPop : OpM := fun d ds h k => arg0 ds (dCell d fun i => nthK h i fun mo => mLst mo fun n l => lastK l fun e l => putM h i n l fun h => k e h)
def mExtend : OpM := fun d ds h k => arg1 ds fun e => dCell d fun i => nthK h i fun mo => mLst mo fun n l => dList e h fun l2 => appK l l2 fun l => lenK l 0 fun n => bsel (Nat.ble n 1000000) (putM h i n l fun h => k .non h) none
def cntN (c : Nat) (s : List Nat) (acc : Nat) (k : Nat → A) : A := @List.rec Nat (fun _ => Nat → A) (fun n => k n) (fun x _ ih n => bsel (Nat.beq x c) (forceN (Nat.succ n) ih) (ih n)) s acc
def mSCount : OpM := fun d ds h k => arg1 ds fun e => dStr d fun z => dStr e fun y => oneSign y fun c => cntN c z 0 fun n => k (.int (.ofNat n)) h
end
theorem dCell_some {d : DV} {f : Nat → A} (e : dCell d f = some O) : ∃ i, d = .ref i ∧ f i = some O := by
  cases d with
  | ref i => exact ⟨i, rfl, e⟩
  | _ => cases e
theorem arg0_some {ds : List DV} {y : A} (e : arg0 ds y = some O) : ds = [] ∧ y = some O := by
  cases ds with
  | nil => exact ⟨rfl, e⟩
  | cons _ _ => cases e
/-- a list's cell, rewritten -/
theorem cell_put {i n n' : Nat} {l l' : List DV} {vs' : List V} {a : Addr} (rp : Rep T ρ F H h) (em : h[i]? = some (.lst n l)) (ea : ρ[i]? = some a) (h1 : l'.length ≤ n') (h2 : n' ≤ mx) (rv : RVl T ρ F H l' vs') :
    Rep T ρ F (upd H a (.lst vs')) (h.set i (.lst n' l')) ∧ Le ρ F H ρ F (upd H a (.lst vs')) := by
  have hm : a ∈ ρ := List.mem_of_getElem? ea
  have le : Le ρ F H ρ F (upd H a (.lst vs')) := Le.put hm (rp.nf i a _ ea em rfl)
  exact ⟨rp.put em ea (by simp) (by simp) (by simp) rfl ⟨h1, h2, vs', upd_same, rv.le le⟩, le⟩
theorem cell_at {i n : Nat} {l : List DV} {v : V} (rp : Rep T ρ F H h) (em : h[i]? = some (.lst n l)) (r : RV T ρ F H (.ref i) v) : ∃ a vs, v = .ref a ∧ ρ[i]? = some a ∧ H a = some (.lst vs) ∧ RVl T ρ F H l vs ∧ l.length ≤ n ∧ n ≤ mx := by
  obtain ⟨a, ea, b1, b2, vs, e3, q⟩ := rp.cells i _ em
  obtain ⟨a', ev, ea'⟩ := r.ref_inv
  rw [ea] at ea'
  cases ea'
  exact ⟨a, vs, ev, ea, e3, q, b1, b2⟩
theorem MtR.imp {id : String} {r r' : V → List V → Hp → VK → Prop} (m : MtR X id r) (i : ∀ x vs H Q, r' x vs H Q → r x vs H Q) : MtR X id r' := fun pins s σ H x xs v us Q I rx rs h => m pins s σ H x xs v us Q I rx rs (i _ _ _ _ h)
theorem bm_append : BMeth X T "list" "append" (RdM T mAppend) := by
  refine ⟨PySem.F.plainAttrs_list, _, PySem.F.slot_list_append, PySem.F.type_list_append, MtR.imp mt_append fun x vs H Q hq => ?_⟩
  obtain ⟨O, ρ, F, d, ds, h, k, rp, rd, rds, e, pk⟩ := hq
  obtain ⟨e0, rfl, e1⟩ := arg1_some e
  obtain ⟨u, rfl, ru⟩ := rds.one
  obtain ⟨i, rfl, e2⟩ := dCell_some e1
  obtain ⟨mo, em, e3⟩ := nthK_some e2
  obtain ⟨n, l, rfl, e4⟩ := mLst_some e3
  obtain ⟨b, e5⟩ := bsel_some e4
  have hn : n < 1000000 := Nat.le_of_ble_eq_true b
  rw [appK_eq, forceN_eq] at e5
  obtain ⟨hi, e6⟩ := putK_some (show putK h i (.lst (Nat.succ n) (l ++ [e0])) _ = some O from e5)
  obtain ⟨a, vs, ev, ea, e7, q, b1, b2⟩ := cell_at rp em rd
  obtain ⟨rp2, l2⟩ := cell_put (l' := l ++ [e0]) (n' := n + 1) (vs' := vs ++ [u]) rp em ea (by rw [List.length_append]; show l.length + 1 ≤ n + 1; omega) hn (q.app (.cons ru .nil))
  refine ⟨a, vs, u, ev, rfl, e7, ?_, pk _ _ e6 ρ F _ .non l2 rp2 (.imm .non)⟩
  rw [← q.len]
  exact Nat.lt_of_lt_of_le (show l.length < 1000000 by omega) (line_of (Nat.le_refl _))
theorem RVl.reverse_last {l : List DV} {vs : List V} {d : DV} {r : List DV} (rv : RVl T ρ F H l vs) (e : l.reverse = d :: r) : ∃ v, vs[vs.length - 1]? = some v ∧ RV T ρ F H d v ∧ RVl T ρ F H r.reverse vs.dropLast := by
  have el : l = r.reverse ++ [d] := by rw [← List.reverse_reverse l, e, List.reverse_cons]
  subst el
  have rr := rv.rev
  rw [e] at rr
  cases hv : vs.reverse with
  | nil => rw [hv] at rr; cases rr
  | cons v ws =>
    rw [hv] at rr
    have ev : vs = ws.reverse ++ [v] := by rw [← List.reverse_reverse vs, hv, List.reverse_cons]
    cases rr with
    | cons a b =>
      refine ⟨v, by rw [ev]; simp, a, ?_⟩
      rw [ev, List.dropLast_concat]
      exact RVl.rev b
theorem bm_pop : BMeth X T "list" "pop" (RdM T mPop) := by
  refine ⟨PySem.F.plainAttrs_list, _, PySem.F.slot_list_pop, PySem.F.type_list_pop, MtR.imp mt_pop fun x vs H Q hq => ?_⟩
  obtain ⟨O, ρ, F, d, ds, h, k, rp, rd, rds, e, pk⟩ := hq
  obtain ⟨rfl, e1⟩ := arg0_some e
  cases rds
  obtain ⟨i, rfl, e2⟩ := dCell_some e1
  obtain ⟨mo, em, e3⟩ := nthK_some e2
  obtain ⟨n, l, rfl, e4⟩ := mLst_some e3
  unfold lastK at e4
  rw [revK_eq, List.append_nil] at e4
  obtain ⟨a, vs, ev, ea, e7, q, b1, b2⟩ := cell_at rp em rd
  cases hr : l.reverse with
  | nil => rw [hr] at e4; cases e4
  | cons d' r =>
    rw [hr] at e4
    have e5 : revK r [] (fun l => putM h i n l fun h => k d' h) = some O := e4
    rw [revK_eq, List.append_nil] at e5
    obtain ⟨hi, e6⟩ := putK_some (show putK h i (.lst n r.reverse) _ = some O from e5)
    obtain ⟨v, hv, rv, rr⟩ := q.reverse_last hr
    have hlen : r.reverse.length ≤ n := by
      have := congrArg List.length hr
      rw [List.length_reverse] at this
      rw [List.length_reverse]
      simp at this
      omega
    obtain ⟨rp2, l2⟩ := cell_put rp em ea hlen b2 rr
    exact ⟨a, vs, v, ev, rfl, e7, hv, pk _ _ e6 ρ F _ v l2 rp2 (rv.le l2)⟩
theorem cntN_some : ∀ {s : List Nat} {c acc : Nat} {k : Nat → A}, cntN c s acc k = some O → ∃ n : Nat, ((n : Int) = acc + PyProof.Rows.cnt c s) ∧ k n = some O
  | [], c, acc, k, e => ⟨acc, by rw [PyProof.Rows.cnt_nil]; simp, e⟩
  | x :: s, c, acc, k, e => by
    rcases bsel2_some (show bsel (Nat.beq x c) (forceN (Nat.succ acc) fun n => cntN c s n k) (cntN c s acc k) = some O from e) with ⟨b, e1⟩ | ⟨b, e1⟩
    · rw [forceN_eq] at e1
      obtain ⟨n, h1, h2⟩ := cntN_some e1
      refine ⟨n, ?_, h2⟩
      rw [h1, PyProof.Rows.cnt_cons, if_pos (Nat.eq_of_beq_eq_true b)]
      push_cast
      omega
    · obtain ⟨n, h1, h2⟩ := cntN_some e1
      refine ⟨n, ?_, h2⟩
      have hne : x ≠ c := fun z => by rw [z, show Nat.beq c c = true from Nat.beq_refl c] at b; cases b
      rw [h1, PyProof.Rows.cnt_cons, if_neg hne]
      omega
theorem bm_scount : BMeth X T "str" "count" (RdM T mSCount) := by
  refine ⟨PySem.F.plainAttrs_str, _, PySem.F.slot_str_count, PySem.F.type_str_count, MtR.imp mt_count fun x vs H Q hq => ?_⟩
  obtain ⟨O, ρ, F, d, ds, h, k, rp, rd, rds, e, pk⟩ := hq
  obtain ⟨e0, rfl, e1⟩ := arg1_some e
  obtain ⟨u, rfl, ru⟩ := rds.one
  obtain ⟨z, rfl, e2⟩ := dStr_some e1
  obtain ⟨y, rfl, e3⟩ := dStr_some e2
  obtain ⟨c, rfl, e4⟩ := oneSign_some e3
  obtain ⟨n, h1, e5⟩ := cntN_some e4
  refine ⟨tx z, tx [c], rd.str_inv.1, by rw [ru.str_inv.1], ?_⟩
  have : Txt.count (tx z) (tx [c]) = (n : Int) := by
    have := PyProof.Rows.count_cnt (tx z) c
    rw [h1]
    refine this.trans ?_
    simp
  rw [this]
  exact pk.now rp e5 (.int _)
end SW
end
section
/-! Dicts. -/
namespace SW
open PySem PySem.Spec PyProof.Rows L2 SlX
variable {T : Tab} {O : Out} {ρ ρ1 ρ' : List Addr} {F F1 F' : Fz} {H H1 H' : Hp} {h h1 : CH} {s : SW.St} {σ : L2.St} {k : K} {x : KX} {Q : VK} {W : WX} {X : Cx} {E : XK}
/-! ### keys -/
noncomputable def kdeps (l : List DV) : Nat → Bool := @DV.rec_1 (fun _ => Nat → Bool) (fun _ => Nat → Bool) (fun _ => true) (fun _ _ => true) (fun _ _ => true) (fun _ _ => true)
  (fun _ ih n => @Nat.rec (fun _ => Bool) false (fun m _ => ih m) n) (fun _ _ _ => false) (fun _ _ _ _ => false) (fun _ _ _ => false) (fun _ _ => false)
  (fun _ => true) (fun _ _ a b n => @Bool.rec (fun _ => Bool) false (b n) (a n)) l
theorem kdep_tup {l : List DV} {n : Nat} (h : kdep (.tup l) n = true) : ∃ m, n = m + 1 ∧ kdeps l m = true := by
  cases n with
  | zero => cases h
  | succ m => exact ⟨m, rfl, h⟩
theorem kdeps_cons {d : DV} {l : List DV} {n : Nat} (h : kdeps (d :: l) n = true) : kdep d n = true ∧ kdeps l n = true := by
  have h' : (kdep d n && kdeps l n) = true := by rw [← brec_and]; exact h
  exact Bool.and_eq_true_iff.mp h'
mutual
theorem nk_depth : ∀ (d : DV) (n : Nat), kdep d n = true → (toNK d).depth ≤ n
  | .non, _, _ => Nat.zero_le _
  | .bl _, _, _ => Nat.zero_le _
  | .int _, _, _ => Nat.zero_le _
  | .str _, _, _ => Nat.zero_le _
  | .tup l, n, h => by
    obtain ⟨m, rfl, h⟩ := kdep_tup h
    exact Nat.succ_le_succ (nks_depth l m h)
  | .lst _, _, h => by cases h
  | .ins _ _, _, h => by cases h
  | .rng _ _, _, h => by cases h
  | .ref _, _, h => by cases h
theorem nks_depth : ∀ (l : List DV) (n : Nat), kdeps l n = true → NestedKey.depthAll (toNK.toNKs l) ≤ n
  | [], _, _ => Nat.zero_le _
  | d :: l, n, h => by
    obtain ⟨a, b⟩ := kdeps_cons h
    exact Nat.max_le.mpr ⟨nk_depth d n a, nks_depth l n b⟩
end
mutual
theorem eqD_nk : ∀ (d e : DV) (n m : Nat), kdep d n = true → kdep e m = true → eqD d e = NestedKey.beq (toNK d) (toNK e)
  | .non, e, n, m, _, h => by
    cases e with
    | non => rfl
    | bl b => rfl
    | int i => rfl
    | str z => rfl
    | tup l => rfl
    | _ => cases h
  | .bl b, e, n, m, _, h => by
    cases e with
    | non => rfl
    | bl c => exact (bEq_eq b c).trans (by cases b <;> cases c <;> rfl)
    | int j =>
      refine (iEq_eq (b2 b) j).trans ?_
      show (b2 b == j) = decide ((if b = true then 1 else 0) = j)
      cases b <;> rfl
    | str z => rfl
    | tup l => rfl
    | _ => cases h
  | .int i, e, n, m, _, h => by
    cases e with
    | non => rfl
    | bl c =>
      refine (iEq_eq i (b2 c)).trans ?_
      show (i == b2 c) = decide (i = (if c = true then 1 else 0))
      cases c <;> rfl
    | int j => exact (iEq_eq i j).trans rfl
    | str z => rfl
    | tup l => rfl
    | _ => cases h
  | .str z, e, n, m, _, h => by
    cases e with
    | non => rfl
    | bl c => rfl
    | int j => rfl
    | str y =>
      refine (tx_beq z y).symm.trans ?_
      show (tx z == tx y) = decide (tx z = tx y)
      rfl
    | tup l => rfl
    | _ => cases h
  | .tup l, e, n, m, h1, h => by
    rw [eqD_tup]
    cases e with
    | non => rfl
    | bl c => rfl
    | int j => rfl
    | str y => rfl
    | tup c =>
      obtain ⟨n', rfl, h1⟩ := kdep_tup h1
      obtain ⟨m', rfl, h⟩ := kdep_tup h
      exact eqDs_nk l c n' m' h1 h
    | _ => cases h
  | .lst _, _, _, _, h, _ => by cases h
  | .ins _ _, _, _, _, h, _ => by cases h
  | .rng _ _, _, _, _, h, _ => by cases h
  | .ref _, _, _, _, h, _ => by cases h
theorem eqDs_nk : ∀ (l c : List DV) (n m : Nat), kdeps l n = true → kdeps c m = true → eqDs l c = NestedKey.beqAll (toNK.toNKs l) (toNK.toNKs c)
  | [], [], _, _, _, _ => rfl
  | [], _ :: _, _, _, _, _ => rfl
  | _ :: _, [], _, _, _, _ => rfl
  | d :: l, e :: c, n, m, h, h2 => by
    obtain ⟨a, b⟩ := kdeps_cons h
    obtain ⟨a2, b2⟩ := kdeps_cons h2
    rw [eqDs_cc, eqD_nk d e n m a a2, eqDs_nk l c n m b b2]
    rfl
end
theorem eqD_key {d e : DV} {n m : Nat} (h1 : kdep d n = true) (h2 : kdep e m = true) : eqD d e = decide (toNK d = toNK e) := by
  rw [eqD_nk d e n m h1 h2, ← NestedKey.decide_eq]
section
variable {P : Program} {w : World} {hp : Heap}
mutual
theorem nested_of (ok : HOk P w H hp) : ∀ (d : DV) (n : Nat) (v : V) (u : Value), kdep d n = true → RVI T F H d v → RelV v u → NestedIs hp (toNK d) u
  | .non, _, _, _, _, .non, r => by cases r; exact .none
  | .bl b, _, _, _, _, .bl _, r => by cases r; exact .bool rfl
  | .int i, _, _, _, _, .int _, r => by obtain ⟨t, rfl⟩ := r; exact .int i t
  | .str z, _, _, _, _, .str _, r => by obtain ⟨t, rfl⟩ := r; exact .text _ t
  | .tup l, n, _, _, h, .tup f e q _, r => by
    cases r
    obtain ⟨m, rfl, h⟩ := kdep_tup h
    obtain ⟨_, its, rv, o, ho, hc, k, hd⟩ := (show ObjOk P w H hp _ (.tup _) from ok _ _ e)
    refine .tup ho hc hd ?_
    have := nesteds_of ok l m _ _ h q rv
    simpa using this
  | .lst _, _, _, _, h, _, _ => by cases h
  | .ins _ _, _, _, _, h, _, _ => by cases h
  | .rng _ _, _, _, _, h, _, _ => by cases h
  | .ref _, _, _, _, h, _, _ => by cases h
theorem nesteds_of (ok : HOk P w H hp) : ∀ (l : List DV) (n : Nat) (vs : List V) (us : List Value), kdeps l n = true → RVs T F H l vs → Vals vs us → NestedAll hp (toNK.toNKs l) us
  | [], _, _, _, _, .nil, .nil => .nil
  | d :: l, n, _, _, h, .cons r t, .cons q u => by
    obtain ⟨a, b⟩ := kdeps_cons h
    exact .cons (nested_of ok d n _ _ a r q) (nesteds_of ok l n _ _ b t u)
end
end
/-! ### tables -/
noncomputable section
def lookK (l : List (DV × DV)) (d : DV) (f : DV → A) (z : A) : A := @List.rec (DV × DV) (fun _ => A) z (fun p _ ih => bsel (eqD p.1 d) (f p.2) ih) l
def storeK (l : List (DV × DV)) (d x : DV) (acc : List (DV × DV)) (k : List (DV × DV) → A) : A :=
  @List.rec (DV × DV) (fun _ => List (DV × DV) → A) (fun acc => revK ((d, x) :: acc) [] k) (fun p l ih acc => bsel (eqD p.1 d) (revK acc ((p.1, x) :: l) k) (ih (p :: acc))) l acc
end
noncomputable def lookL (l : List (DV × DV)) (d : DV) : Option DV := (l.find? fun p => eqD p.1 d).map (·.2)
noncomputable def storeL : List (DV × DV) → DV → DV → List (DV × DV)
  | [], d, x => [(d, x)]
  | p :: l, d, x => if eqD p.1 d = true then (p.1, x) :: l else p :: storeL l d x
theorem storeL_cons (p : DV × DV) (l : List (DV × DV)) (d x : DV) : storeL (p :: l) d x = if eqD p.1 d = true then (p.1, x) :: l else p :: storeL l d x := rfl
theorem bsel_eq (b : Bool) (x y : A) : bsel b x y = if b = true then x else y := by cases b <;> rfl
theorem lookK_eq : ∀ (l : List (DV × DV)) (d : DV) (f : DV → A) (z : A), lookK l d f z = match lookL l d with | some v => f v | none => z
  | [], _, _, _ => rfl
  | p :: l, d, f, z => by
    show bsel (eqD p.1 d) (f p.2) (lookK l d f z) = _
    rw [bsel_eq, lookK_eq l d f z]
    unfold lookL
    rw [List.find?_cons]
    cases eqD p.1 d <;> rfl
theorem storeK_eq : ∀ (l : List (DV × DV)) (d x : DV) (acc : List (DV × DV)) (k : List (DV × DV) → A), storeK l d x acc k = k (acc.reverse ++ storeL l d x)
  | [], d, x, acc, k => by
    show revK ((d, x) :: acc) [] k = _
    rw [revK_eq]; simp [storeL]
  | p :: l, d, x, acc, k => by
    show bsel (eqD p.1 d) (revK acc ((p.1, x) :: l) k) (storeK l d x (p :: acc) k) = _
    rw [bsel_eq, storeK_eq l d x (p :: acc) k, revK_eq, storeL_cons]
    by_cases e : eqD p.1 d = true
    · rw [if_pos e, if_pos e]
    · rw [if_neg e, if_neg e]; simp
theorem lookL_cons (p : DV × DV) (l : List (DV × DV)) (d : DV) : lookL (p :: l) d = if eqD p.1 d = true then some p.2 else lookL l d := by
  unfold lookL
  rw [List.find?_cons]
  cases eqD p.1 d <;> rfl
/-- one table on another -/
structure Col {κ β : Type} [DecidableEq κ] (key : DV → κ) (R : DV × DV → β → Prop) (d : DV) (l : List (DV × DV)) (kvs : List (κ × β)) : Prop where
  rel : Paired (fun p q => q.1 = key p.1 ∧ R p q.2) l kvs
  eq : ∀ p ∈ l, eqD p.1 d = decide (key p.1 = key d)
section
variable {κ β : Type} [DecidableEq κ] {key : DV → κ} {R : DV × DV → β → Prop} {d : DV}
theorem Col.find {l : List (DV × DV)} {kvs : List (κ × β)} (c : Col key R d l kvs) : (∃ p b, lookL l d = some p.2 ∧ (kvs.find? fun q => decide (q.1 = key d)).map (·.2) = some b ∧ R p b) ∨ (lookL l d = none ∧ (kvs.find? fun q => decide (q.1 = key d)).map (·.2) = none) := by
  obtain ⟨rel, eq⟩ := c
  induction rel with
  | nil => exact .inr ⟨rfl, rfl⟩
  | @cons p q ps qs r t ih =>
    rw [lookL_cons, List.find?_cons]
    have e := eq p List.mem_cons_self
    rw [r.1, e]
    cases decide (key p.1 = key d) with
    | true => exact .inl ⟨p, q.2, rfl, rfl, r.2⟩
    | false => exact ih fun p hp => eq p (List.mem_cons_of_mem _ hp)
theorem Col.put {l : List (DV × DV)} {kvs : List (κ × β)} {x : DV} {g : β → β} {nb : β} (c : Col key R d l kvs) (h1 : ∀ p b, R p b → R (p.1, x) (g b)) (h2 : R (d, x) nb) (nd : (kvs.map (·.1)).Nodup) :
    Paired (fun p q => q.1 = key p.1 ∧ R p q.2) (storeL l d x) (if kvs.any (fun kv => decide (kv.1 = key d)) = true then kvs.map (fun kv => if kv.1 = key d then (kv.1, g kv.2) else kv) else kvs ++ [(key d, nb)]) := by
  obtain ⟨rel, eq⟩ := c
  induction rel with
  | nil => exact .cons ⟨rfl, h2⟩ .nil
  | @cons p q ps qs r t ih =>
    have e := eq p List.mem_cons_self
    have ih' := ih (List.nodup_cons.mp nd).2 fun p hp => eq p (List.mem_cons_of_mem _ hp)
    rw [storeL_cons, List.any_cons, List.map_cons, r.1, e]
    by_cases z : key p.1 = key d
    · rw [if_pos (decide_eq_true z), decide_eq_true z, Bool.true_or, if_pos rfl, if_pos z]
      refine .cons ⟨rfl, h1 _ _ r.2⟩ ?_
      have hno : ∀ kv ∈ qs, ¬ kv.1 = key d := fun kv hkv hz => (List.nodup_cons.mp nd).1 (List.mem_map.mpr ⟨kv, hkv, hz.trans (z.symm.trans r.1.symm)⟩)
      have : qs.map (fun kv => if kv.1 = key d then (kv.1, g kv.2) else kv) = qs := by
        refine Eq.trans ?_ (List.map_id qs)
        exact List.map_congr_left fun kv hkv => if_neg (hno kv hkv)
      rw [this]
      exact t
    · rw [if_neg (by rw [decide_eq_false z]; exact Bool.false_ne_true), decide_eq_false z, Bool.false_or, if_neg z]
      split
      · rename_i q1
        rw [if_pos q1] at ih'
        exact .cons r ih'
      · rename_i q1
        rw [if_neg q1] at ih'
        exact .cons r ih'
end
theorem storeL_length : ∀ (l : List (DV × DV)) (d x : DV), (storeL l d x).length ≤ l.length + 1
  | [], _, _ => Nat.le_refl _
  | p :: l, d, x => by
    rw [storeL_cons]
    split
    · simp
    · simp only [List.length_cons]; have := storeL_length l d x; omega
/-- keys of one kind -/
def KC (tup : Bool) (d : DV) : Prop := if tup = true then kTup d = true ∧ kdep d 8 = true else kSc d = true
theorem KC.dep {t : Bool} {d : DV} (h : KC t d) : kdep d 8 = true := by
  cases t with
  | true => exact h.2
  | false =>
    have : kSc d = true := h
    cases d <;> first | rfl | cases this
theorem KC.eq {t t' : Bool} {d e : DV} (h : KC t d) (h' : KC t' e) : eqD d e = decide (toNK d = toNK e) := eqD_key h.dep h'.dep
theorem storeL_mem {l : List (DV × DV)} {d x : DV} {p : DV × DV} : p ∈ storeL l d x → (∃ q ∈ l, p.1 = q.1) ∨ p.1 = d := by
  induction l with
  | nil => intro h; rw [List.mem_singleton.mp h]; exact .inr rfl
  | cons q l ih =>
    rw [storeL_cons]
    split
    · intro h
      rcases List.mem_cons.mp h with e | e
      · exact .inl ⟨q, List.mem_cons_self, by rw [e]⟩
      · exact .inl ⟨p, List.mem_cons_of_mem _ e, rfl⟩
    · intro h
      rcases List.mem_cons.mp h with e | e
      · exact .inl ⟨q, List.mem_cons_self, by rw [e]⟩
      · rcases ih e with ⟨r, hr, e⟩ | e
        · exact .inl ⟨r, List.mem_cons_of_mem _ hr, e⟩
        · exact .inr e
theorem storeL_nodup {d x : DV} : ∀ {l : List (DV × DV)}, (∀ p ∈ l, eqD p.1 d = decide (toNK p.1 = toNK d)) → (l.map fun p => toNK p.1).Nodup → ((storeL l d x).map fun p => toNK p.1).Nodup
  | [], _, _ => List.nodup_cons.mpr ⟨fun h => (nomatch h), List.nodup_nil⟩
  | p :: l, h, nd => by
    rw [storeL_cons]
    split
    · exact nd
    · rename_i e
      rw [List.map_cons]
      refine List.nodup_cons.mpr ⟨fun z => ?_, storeL_nodup (fun p hp => h p (List.mem_cons_of_mem _ hp)) (List.nodup_cons.mp nd).2⟩
      obtain ⟨q, hq, e1⟩ := List.mem_map.mp z
      rcases storeL_mem hq with ⟨r, hr, e2⟩ | e2
      · exact (List.nodup_cons.mp nd).1 (List.mem_map.mpr ⟨r, hr, by rw [← e2]; exact e1⟩)
      · refine e ?_
        rw [h p List.mem_cons_self]
        exact decide_eq_true (by rw [← e1, e2])
theorem DOk.cls {a : Addr} {l : List (DV × DV)} (d : DOk T ρ F H a l) : ∃ t, ∀ p ∈ l, KC t p.1 := by
  rcases d.kc with h | h
  · exact ⟨true, h⟩
  · exact ⟨false, h⟩
noncomputable section
/-- a key of the dict's kind -/
def isTup (d : DV) : Bool := @DV.rec (fun _ => Bool) (fun _ => Unit) false (fun _ => false) (fun _ => false) (fun _ => false) (fun _ _ => true) (fun _ _ => false) (fun _ _ _ => false) (fun _ _ => false) (fun _ => false) () (fun _ _ _ _ => ()) d
def isSc (d : DV) : Bool := @DV.rec (fun _ => Bool) (fun _ => Unit) false (fun _ => false) (fun _ => true) (fun _ => true) (fun _ _ => false) (fun _ _ => false) (fun _ _ _ => false) (fun _ _ => false) (fun _ => false) () (fun _ _ _ _ => ()) d
def keyK (l : List (DV × DV)) (d : DV) (z : A) : A := @List.rec (DV × DV) (fun _ => A) (bsel (isTup d) (bsel (kdep d 8) z none) (bsel (isSc d) z none)) (fun p _ _ => bsel (isTup d) (bsel (kdep d 8) (bsel (isTup p.1) z none) none) (bsel (isSc d) (bsel (isTup p.1) none z) none)) l
end
theorem isTup_eq (d : DV) : isTup d = kTup d := by cases d <;> rfl
theorem isSc_eq (d : DV) : isSc d = kSc d := by cases d <;> rfl
theorem bsel2_no {b : Bool} {y : A} (e : bsel b none y = some O) : b = false ∧ y = some O := by
  cases b with
  | false => exact ⟨rfl, e⟩
  | true => cases e
theorem kSc_tup {d : DV} (h : kSc d = true) : kTup d = false := by cases d <;> first | rfl | cases h
theorem keyK_some {a : Addr} {l : List (DV × DV)} {d : DV} {z : A} (o : DOk T ρ F H a l) (e : keyK l d z = some O) : ∃ t, (∀ p ∈ l, KC t p.1) ∧ KC t d ∧ z = some O := by
  cases l with
  | nil =>
    rcases bsel2_some (show bsel (isTup d) (bsel (kdep d 8) z none) (bsel (isSc d) z none) = some O from e) with ⟨b, e1⟩ | ⟨b, e1⟩
    · obtain ⟨b2, e2⟩ := bsel_some e1
      exact ⟨true, fun _ h => (nomatch h), ⟨(isTup_eq d).symm.trans b, b2⟩, e2⟩
    · obtain ⟨b2, e2⟩ := bsel_some e1
      exact ⟨false, fun _ h => (nomatch h), (isSc_eq d).symm.trans b2, e2⟩
  | cons p l =>
    obtain ⟨t, ht⟩ := o.cls
    rcases bsel2_some (show bsel (isTup d) (bsel (kdep d 8) (bsel (isTup p.1) z none) none) (bsel (isSc d) (bsel (isTup p.1) none z) none) = some O from e) with ⟨b, e1⟩ | ⟨b, e1⟩
    · obtain ⟨b2, e2⟩ := bsel_some e1
      obtain ⟨b3, e3⟩ := bsel_some e2
      rw [isTup_eq] at b3 b
      cases t with
      | true => exact ⟨true, ht, ⟨b, b2⟩, e3⟩
      | false => rw [kSc_tup (ht p List.mem_cons_self)] at b3; cases b3
    · obtain ⟨b2, e2⟩ := bsel_some e1
      obtain ⟨b3, e3⟩ := bsel2_no e2
      rw [isTup_eq] at b3
      cases t with
      | true => rw [(ht p List.mem_cons_self).1] at b3; cases b3
      | false => exact ⟨false, ht, (isSc_eq d).symm.trans b2, e3⟩
/-! ### the heap's dicts -/
def RT (T : Tab) (ρ : List Addr) (F : Fz) (H : Hp) (p : DV × DV) (b : Addr × Value) : Prop := RVI T F H p.1 (.ref b.1) ∧ ∃ v, RelV v b.2 ∧ RV T ρ F H p.2 v
def RS (T : Tab) (ρ : List Addr) (F : Fz) (H : Hp) (p : DV × DV) (b : Value) : Prop := ∃ v, RelV v b ∧ RV T ρ F H p.2 v
def kOf : DV → Key
  | .int i => .inl i
  | .str z => .inr (tx z)
  | _ => .inl 0
theorem kOf_eq {d e : DV} (h : KC false d) (h' : KC false e) : decide (kOf d = kOf e) = decide (toNK d = toNK e) := by
  have h : kSc d = true := h
  have h' : kSc e = true := h'
  cases d <;> first | (cases h; done) | (cases e <;> first | (cases h'; done) | skip)
  · rename_i i hx j hy
    by_cases z : i = j
    · subst z; rw [decide_eq_true rfl, decide_eq_true rfl]
    · rw [decide_eq_false (show ¬ kOf (.int i) = kOf (.int j) from fun q => z (Sum.inl.inj q)), decide_eq_false (show ¬ toNK (.int i) = toNK (.int j) from fun q => z (NestedKey.num.inj q))]
  · rw [decide_eq_false (fun q => nomatch q), decide_eq_false (fun q => nomatch q)]
  · rw [decide_eq_false (fun q => nomatch q), decide_eq_false (fun q => nomatch q)]
  · rename_i i hx j hy
    by_cases z : tx i = tx j
    · rw [decide_eq_true (show kOf (.str i) = kOf (.str j) from congrArg Sum.inr z), decide_eq_true (show toNK (.str i) = toNK (.str j) from congrArg NestedKey.text z)]
    · rw [decide_eq_false (show ¬ kOf (.str i) = kOf (.str j) from fun q => z (Sum.inr.inj q)), decide_eq_false (show ¬ toNK (.str i) = toNK (.str j) from fun q => z (NestedKey.text.inj q))]
theorem RVI.addr {l : List DV} {v : V} (r : RVI T F H (.tup l) v) : ∃ a, v = .ref a := by cases r; exact ⟨_, rfl⟩
section
variable {pins : List (Addr × Obj)} {sh : Shared} {a : Addr} {l : List (DV × DV)}
theorem entsH {P : Program} {w : World} {hp : Heap} (hw : T.w = w) (ok : HOk P w H hp) : ∀ {l : List (DV × DV)} {es : List DictEntry}, Paired (DEnt T ρ F H) l es → (∀ p ∈ l, KC true p.1) →
    ∃ xs : List (NestedKey × Addr × Value), es = xs.map (entryOfKey (nestedKind P w)) ∧ (∀ x ∈ xs, (nestedKind P w).is hp x.1 x.2.1) ∧ Paired (fun p q => q.1 = toNK p.1 ∧ RT T ρ F H p q.2) l xs
  | _, _, .nil, _ => ⟨[], rfl, fun _ h => (nomatch h), .nil⟩
  | p :: l, e :: es, .cons d t, c => by
    obtain ⟨xs, h1, h2, h3⟩ := entsH hw ok t fun p hp => c p (List.mem_cons_of_mem _ hp)
    obtain ⟨⟨v, rv, ri⟩, eh, y, ry, rr⟩ := d
    have hc := c p List.mem_cons_self
    obtain ⟨hc1, hc2⟩ := hc
    obtain ⟨k, x⟩ := p
    obtain ⟨eh', ek, ev⟩ := e
    cases k with
    | tup tl =>
      obtain ⟨b, rfl⟩ := ri.addr
      obtain rfl : ek = Value.ref b := rv
      have hash' : eh' = (toNK (.tup tl)).hash w := by rw [← hw]; exact eh
      refine ⟨(toNK (.tup tl), b, ev) :: xs, ?_, ?_, .cons ⟨rfl, ri, y, ry, rr⟩ h3⟩
      · rw [List.map_cons, ← h1, hash']; rfl
      · intro z hz
        rcases List.mem_cons.mp hz with e | e
        · rw [e]; exact ⟨nested_of ok _ 8 _ _ hc2 ri rfl, nk_depth _ 8 hc2⟩
        · exact h2 z e
    | _ => cases hc1
theorem pair_keys {κ β : Type} {key : DV → κ} {R : DV × DV → β → Prop} : ∀ {l : List (DV × DV)} {kvs : List (κ × β)}, Paired (fun p q => q.1 = key p.1 ∧ R p q.2) l kvs → kvs.map (·.1) = l.map fun p => key p.1
  | _, _, .nil => rfl
  | _, _, .cons r t => by rw [List.map_cons, List.map_cons, r.1, pair_keys t]
theorem dH (hw : T.w = X.w) (I : Inv X pins σ H sh) (o : DOk T ρ F H a l) (c : ∀ p ∈ l, KC true p.1) : ∃ xs, sh.heap.DictOfH (nestedKind X.prog X.w) a xs ∧ Paired (fun p q => q.1 = toNK p.1 ∧ RT T ρ F H p q.2) l xs := by
  obtain ⟨ob, es, ep, h1, h2, h3, h4⟩ := o.obj
  obtain ⟨xs, k1, k2, k3⟩ := entsH hw I.hok h4 c
  exact ⟨xs, ⟨ob, es, ep, dic_at I h1, h2, h3, k1, k2, by rw [pair_keys (key := toNK) k3]; exact o.nod⟩, k3⟩
theorem kOf_is {P : Program} {w : World} {k : DV} {v : V} {u : Value} (hc : KC false k) (ri : RVI T F H k v) (rv : RelV v u) : (mixKind P w).is (kOf k) u = true ∧ (mixKind P w).hash (kOf k) = (toNK k).hash w := by
  have hc : kSc k = true := hc
  cases k with
  | int i => cases ri; obtain ⟨t, rfl⟩ := rv; exact ⟨mixKind_int P w i t, rfl⟩
  | str z => cases ri; obtain ⟨t, rfl⟩ := rv; exact ⟨mixKind_str P w _ t, rfl⟩
  | _ => cases hc
theorem entsS {P : Program} {w : World} (hw : T.w = w) : ∀ {l : List (DV × DV)} {es : List DictEntry}, Paired (DEnt T ρ F H) l es → (∀ p ∈ l, KC false p.1) →
    ∃ kvs : List (Key × Value), Pairs (mixKind P w) es kvs ∧ (∀ e ∈ es, ∃ k, (mixKind P w).is k e.key = true ∧ e.hash = (mixKind P w).hash k) ∧ Paired (fun p q => q.1 = kOf p.1 ∧ RS T ρ F H p q.2) l kvs
  | _, _, .nil, _ => ⟨[], .nil, fun _ h => (nomatch h), .nil⟩
  | p :: l, e :: es, .cons d t, c => by
    obtain ⟨kvs, h1, h2, h3⟩ := entsS (P := P) hw t fun p hp => c p (List.mem_cons_of_mem _ hp)
    obtain ⟨⟨v, rv, ri⟩, eh, y, ry, rr⟩ := d
    obtain ⟨i1, i2⟩ := kOf_is (P := P) (w := w) (c p List.mem_cons_self) ri rv
    refine ⟨(kOf p.1, e.val) :: kvs, .cons i1 rfl h1, ?_, .cons ⟨rfl, y, ry, rr⟩ h3⟩
    intro z hz
    rcases List.mem_cons.mp hz with q | q
    · subst q; exact ⟨kOf p.1, i1, by rw [i2, ← hw]; exact eh⟩
    · exact h2 z q
theorem nodup_k : ∀ {l : List (DV × DV)}, (∀ p ∈ l, KC false p.1) → (l.map fun p => toNK p.1).Nodup → (l.map fun p => kOf p.1).Nodup
  | [], _, _ => List.nodup_nil
  | p :: l, c, nd => by
    rw [List.map_cons] at nd ⊢
    refine List.nodup_cons.mpr ⟨fun z => ?_, nodup_k (fun p hp => c p (List.mem_cons_of_mem _ hp)) (List.nodup_cons.mp nd).2⟩
    obtain ⟨q, hq, e⟩ := List.mem_map.mp z
    refine (List.nodup_cons.mp nd).1 (List.mem_map.mpr ⟨q, hq, ?_⟩)
    have := kOf_eq (c q (List.mem_cons_of_mem _ hq)) (c p List.mem_cons_self)
    rw [decide_eq_true e] at this
    exact of_decide_eq_true this.symm
theorem dS (hw : T.w = X.w) (I : Inv X pins σ H sh) (o : DOk T ρ F H a l) (c : ∀ p ∈ l, KC false p.1) : ∃ kvs, sh.heap.DictOf (mixKind X.prog X.w) a kvs ∧ Paired (fun p q => q.1 = kOf p.1 ∧ RS T ρ F H p q.2) l kvs := by
  obtain ⟨ob, es, ep, h1, h2, h3, h4⟩ := o.obj
  obtain ⟨kvs, k1, k2, k3⟩ := entsS (P := X.prog) hw h4 c
  exact ⟨kvs, ⟨ob, es, ep, dic_at I h1, h2, h3, fun e he => k2 e (Array.mem_toList_iff.mpr he), k1, by rw [pair_keys (key := kOf) k3]; exact nodup_k c o.nod⟩, k3⟩
/-- what the lookup finds -/
theorem colH {d : DV} {xs : List (NestedKey × Addr × Value)} (r : Paired (fun p q => q.1 = toNK p.1 ∧ RT T ρ F H p q.2) l xs) (c : ∀ p ∈ l, KC true p.1) (hd : KC true d) : Col toNK (RT T ρ F H) d l xs :=
  ⟨r, fun p hp => (c p hp).eq hd⟩
theorem colS {d : DV} {kvs : List (Key × Value)} (r : Paired (fun p q => q.1 = kOf p.1 ∧ RS T ρ F H p q.2) l kvs) (c : ∀ p ∈ l, KC false p.1) (hd : KC false d) : Col kOf (RS T ρ F H) d l kvs :=
  ⟨r, fun p hp => ((c p hp).eq hd).trans (kOf_eq (c p hp) hd).symm⟩
theorem key_addr {d : DV} {v : V} (hd : KC true d) (r : RV T ρ F H d v) : ∃ b, v = .ref b ∧ RVI T F H d (.ref b) := by
  obtain ⟨h1, _⟩ := hd
  cases d with
  | tup tl =>
    have ri := r.imm_of rfl
    obtain ⟨b, rfl⟩ := ri.addr
    exact ⟨b, rfl, ri⟩
  | _ => cases h1
theorem KC.imm {d : DV} {v : V} (hd : KC false d) (r : RV T ρ F H d v) : RVI T F H d v := r.imm_of (by
  have hd : kSc d = true := hd
  cases d <;> first | rfl | cases hd)
end
section
variable {pins : List (Addr × Obj)} {sh : Shared} {a : Addr} {l : List (DV × DV)} {d : DV} {y : V} {u : Value} {A : Around} {E : Value → Shared → Prop} {t : Bool}
theorem atKey_eq {κ : Type} [DecidableEq κ] (xs : List (κ × Addr × Value)) (k : κ) : (xs.find? fun q => decide (q.1 = k)).map (·.2) = atKey xs k := rfl
theorem valueAt_eq {κ : Type} [DecidableEq κ] (xs : List (κ × Value)) (k : κ) : (xs.find? fun q => decide (q.1 = k)).map (·.2) = valueAt xs k := rfl
theorem dTypeIs (I : Inv X pins σ H sh) (o : DOk T ρ F H a l) : sh.TypeIs (.ref a) "dict" := by
  obtain ⟨ob, es, ep, h1, h2, h3, h4⟩ := o.obj
  exact ⟨ob, dic_at I h1, h2.1⟩
theorem isH (I : Inv X pins σ H sh) (hd : KC true d) {b : Addr} (ri : RVI T F H d (.ref b)) : (nestedKind X.prog X.w).is sh.heap (toNK d) b := ⟨nested_of I.hok _ 8 _ _ hd.2 ri rfl, nk_depth _ 8 hd.2⟩
theorem ent_mem {q : DV × DV} : ∀ {l : List (DV × DV)} {L : List DictEntry}, Paired (DEnt T ρ F H) l L → q ∈ l → ∃ e1, DEnt T ρ F H q e1
  | _, _, .cons z t, hq => (List.mem_cons.mp hq).elim (fun e => ⟨_, e ▸ z⟩) fun e => ent_mem t e
/-- d[k], there -/
theorem di_get {Q : Value → Shared → Prop} {v : DV} (hw : T.w = X.w) (hu : A.units + 10 < cLine) (I : Inv X pins σ H sh) (o : DOk T ρ F H a l) (c : ∀ p ∈ l, KC t p.1) (hd : KC t d) (r : RV T ρ F H d y) (ry : RelV y u) (e : lookL l d = some v)
    (h : ∀ z w' s', Inv X pins σ H s' → RelV z w' → RV T ρ F H v z → Q w' s') : wpAny (model X.prog X.w) A (getItem (.ref a) u) Q E sh := by
  cases t with
  | true =>
    obtain ⟨b, rfl, ri⟩ := key_addr hd r
    obtain rfl : u = Value.ref b := ry
    obtain ⟨xs, h1, h2⟩ := dH hw I o c
    rcases (colH h2 c hd).find with ⟨p, b', e1, e2, _, z, rz, rr⟩ | ⟨e1, _⟩
    · rw [e] at e1
      cases e1
      rw [atKey_eq] at e2
      exact wpAny_getItem_heap (show A.in1.units + 8 < cLine by rw [Around.in1_units]; omega) (isH (X := X) I hd ri) h1 e2 (h z _ _ (I.tok _) rz rr)
    · rw [e] at e1; cases e1
  | false =>
    obtain ⟨kvs, h1, h2⟩ := dS hw I o c
    rcases (colS h2 c hd).find with ⟨p, b', e1, e2, z, rz, rr⟩ | ⟨e1, _⟩
    · rw [e] at e1
      cases e1
      rw [valueAt_eq] at e2
      exact wpAny_getItem_of (kOf_is hd (hd.imm r) ry).1 h1.mapOf e2 (h z _ _ (I.tok _) rz rr)
    · rw [e] at e1; cases e1
/-- d.get(k, x) -/
theorem di_get2 {Q : Value → Shared → Prop} {x : V} {ux : Value} (hw : T.w = X.w) (hu : A.units + 10 < cLine) (I : Inv X pins σ H sh) (o : DOk T ρ F H a l) (c : ∀ p ∈ l, KC t p.1) (hd : KC t d) (r : RV T ρ F H d y) (ry : RelV y u) (rx : RelV x ux)
    (h : ∀ z w' s', Inv X pins σ H s' → RelV z w' → (∀ v, lookL l d = some v → RV T ρ F H v z) → (lookL l d = none → z = x) → Q w' s') : wpAny (model X.prog X.w) A (call (.builtin "dict.get") [.ref a, u, ux]) Q E sh := by
  cases t with
  | true =>
    obtain ⟨b, rfl, ri⟩ := key_addr hd r
    obtain rfl : u = Value.ref b := ry
    obtain ⟨xs, h1, h2⟩ := dH hw I o c
    refine call_meetsIn PySem.F.slot_dict_get h1.typeIs PySem.F.entry_dict_get (PySem.F.args_dict_get_3 _ _ _) (meetsH_dict_get_default (nestedKind X.prog X.w) a b o.sm ux)
      ⟨show A.in1.units + 8 < cLine by rw [Around.in1_units]; omega, _, xs, (isH (X := X) I hd ri), h1, ?_⟩
    rcases (colH h2 c hd).find with ⟨p, b', e1, e2, _, z, rz, rr⟩ | ⟨e1, e2⟩
    · rw [atKey_eq] at e2
      rw [e2]
      exact h z _ _ (I.tok _) rz (fun v ev => by rw [e1] at ev; cases ev; exact rr) (fun ev => by rw [e1] at ev; cases ev)
    · rw [atKey_eq] at e2
      rw [e2]
      exact h x _ _ (I.tok _) rx (fun v ev => by rw [e1] at ev; cases ev) (fun _ => rfl)
  | false =>
    obtain ⟨kvs, h1, h2⟩ := dS hw I o c
    refine call_meetsIn PySem.F.slot_dict_get h1.typeIs PySem.F.entry_dict_get (PySem.F.args_dict_get_3 _ _ _) (meets_dict_get_default (mixKind X.prog X.w) a (kOf_is hd (hd.imm r) ry).1 o.sm ux) ⟨_, h1.mapOf, ?_⟩
    rcases (colS h2 c hd).find with ⟨p, b', e1, e2, z, rz, rr⟩ | ⟨e1, e2⟩
    · rw [valueAt_eq] at e2
      rw [e2]
      exact h z _ _ (I.tok _) rz (fun v ev => by rw [e1] at ev; cases ev; exact rr) (fun ev => by rw [e1] at ev; cases ev)
    · rw [valueAt_eq] at e2
      rw [e2]
      exact h x _ _ (I.tok _) rx (fun v ev => by rw [e1] at ev; cases ev) (fun _ => rfl)
theorem di_get1 {Q : Value → Shared → Prop} (hw : T.w = X.w) (hu : A.units + 10 < cLine) (I : Inv X pins σ H sh) (o : DOk T ρ F H a l) (c : ∀ p ∈ l, KC t p.1) (hd : KC t d) (r : RV T ρ F H d y) (ry : RelV y u)
    (h : ∀ z w' s', Inv X pins σ H s' → RelV z w' → (∀ v, lookL l d = some v → RV T ρ F H v z) → (lookL l d = none → z = .non) → Q w' s') : wpAny (model X.prog X.w) A (call (.builtin "dict.get") [.ref a, u]) Q E sh := by
  cases t with
  | true =>
    obtain ⟨b, rfl, ri⟩ := key_addr hd r
    obtain rfl : u = Value.ref b := ry
    obtain ⟨xs, h1, h2⟩ := dH hw I o c
    refine call_meetsIn PySem.F.slot_dict_get h1.typeIs PySem.F.entry_dict_get (PySem.F.args_dict_get_2 _ _) (meetsH_dict_get (nestedKind X.prog X.w) a b o.sm)
      ⟨show A.in1.units + 8 < cLine by rw [Around.in1_units]; omega, _, xs, (isH (X := X) I hd ri), h1, ?_⟩
    rcases (colH h2 c hd).find with ⟨p, b', e1, e2, _, z, rz, rr⟩ | ⟨e1, e2⟩
    · rw [atKey_eq] at e2
      rw [e2]
      exact h z _ _ (I.tok _) rz (fun v ev => by rw [e1] at ev; cases ev; exact rr) (fun ev => by rw [e1] at ev; cases ev)
    · rw [atKey_eq] at e2
      rw [e2]
      exact h .non _ _ (I.tok _) rfl (fun v ev => by rw [e1] at ev; cases ev) (fun _ => rfl)
  | false =>
    obtain ⟨kvs, h1, h2⟩ := dS hw I o c
    refine call_meetsIn PySem.F.slot_dict_get h1.typeIs PySem.F.entry_dict_get (PySem.F.args_dict_get_2 _ _) (meets_dict_get (mixKind X.prog X.w) a (kOf_is hd (hd.imm r) ry).1 o.sm) ⟨_, h1.mapOf, ?_⟩
    rcases (colS h2 c hd).find with ⟨p, b', e1, e2, z, rz, rr⟩ | ⟨e1, e2⟩
    · rw [valueAt_eq] at e2
      rw [e2]
      exact h z _ _ (I.tok _) rz (fun v ev => by rw [e1] at ev; cases ev; exact rr) (fun ev => by rw [e1] at ev; cases ev)
    · rw [valueAt_eq] at e2
      rw [e2]
      exact h .non _ _ (I.tok _) rfl (fun v ev => by rw [e1] at ev; cases ev) (fun _ => rfl)
/-- k in d -/
theorem di_in {Q : Value → Shared → Prop} (hw : T.w = X.w) (hu : A.units + 10 < cLine) (I : Inv X pins σ H sh) (o : DOk T ρ F H a l) (c : ∀ p ∈ l, KC t p.1) (hd : KC t d) (r : RV T ρ F H d y) (ry : RelV y u)
    (h : ∀ s', Inv X pins σ H s' → Q (.bool (lookL l d).isSome) s') : wpAny (model X.prog X.w) A (compareOp .In u (.ref a)) Q E sh := by
  cases t with
  | true =>
    obtain ⟨b, rfl, ri⟩ := key_addr hd r
    obtain rfl : u = Value.ref b := ry
    obtain ⟨xs, h1, h2⟩ := dH hw I o c
    refine wpAny_in_heap (show A.in1.units + 8 < cLine by rw [Around.in1_units]; omega) (isH (X := X) I hd ri) o.sm h1 ?_
    rcases (colH h2 c hd).find with ⟨p, b', e1, e2, _⟩ | ⟨e1, e2⟩
    · rw [atKey_eq] at e2
      rw [e2]; rw [e1] at h; exact h _ (I.tok _)
    · rw [atKey_eq] at e2
      rw [e2]; rw [e1] at h; exact h _ (I.tok _)
  | false =>
    obtain ⟨kvs, h1, h2⟩ := dS hw I o c
    refine wpAny_in_of (kOf_is hd (hd.imm r) ry).1 o.sm h1.mapOf ?_
    rcases (colS h2 c hd).find with ⟨p, b', e1, e2, _⟩ | ⟨e1, e2⟩
    · rw [valueAt_eq] at e2
      rw [e2]; rw [e1] at h; exact h _ (I.tok _)
    · rw [valueAt_eq] at e2
      rw [e2]; rw [e1] at h; exact h _ (I.tok _)
theorem di_notIn {Q : Value → Shared → Prop} (hw : T.w = X.w) (hu : A.units + 10 < cLine) (I : Inv X pins σ H sh) (o : DOk T ρ F H a l) (c : ∀ p ∈ l, KC t p.1) (hd : KC t d) (r : RV T ρ F H d y) (ry : RelV y u)
    (h : ∀ s', Inv X pins σ H s' → Q (.bool (!(lookL l d).isSome)) s') : wpAny (model X.prog X.w) A (compareOp .NotIn u (.ref a)) Q E sh := by
  cases t with
  | true =>
    obtain ⟨b, rfl, ri⟩ := key_addr hd r
    obtain rfl : u = Value.ref b := ry
    obtain ⟨xs, h1, h2⟩ := dH hw I o c
    refine wpAny_notIn_heap (show A.in1.units + 8 < cLine by rw [Around.in1_units]; omega) (isH (X := X) I hd ri) o.sm h1 ?_
    rcases (colH h2 c hd).find with ⟨p, b', e1, e2, _⟩ | ⟨e1, e2⟩
    · rw [atKey_eq] at e2
      rw [e2]; rw [e1] at h; exact h _ (I.tok _)
    · rw [atKey_eq] at e2
      rw [e2]; rw [e1] at h; exact h _ (I.tok _)
  | false =>
    obtain ⟨kvs, h1, h2⟩ := dS hw I o c
    refine wpAny_notIn_of (kOf_is hd (hd.imm r) ry).1 o.sm h1.mapOf ?_
    rcases (colS h2 c hd).find with ⟨p, b', e1, e2, _⟩ | ⟨e1, e2⟩
    · rw [valueAt_eq] at e2
      rw [e2]; rw [e1] at h; exact h _ (I.tok _)
    · rw [valueAt_eq] at e2
      rw [e2]; rw [e1] at h; exact h _ (I.tok _)
/-- entries back -/
theorem entsS_back {P : Program} {w : World} (hw : T.w = w) : ∀ {l : List (DV × DV)} {es : List DictEntry} {kvs : List (Key × Value)}, Pairs (mixKind P w) es kvs → (∀ e ∈ es, ∃ k, (mixKind P w).is k e.key = true ∧ e.hash = (mixKind P w).hash k) →
    Paired (fun p q => q.1 = kOf p.1 ∧ RS T ρ F H p q.2) l kvs → (∀ p ∈ l, KC false p.1 ∧ ∃ v, RVI T F H p.1 v) → Paired (DEnt T ρ F H) l es
  | _, _, _, .nil, _, .nil, _ => .nil
  | p :: l, e :: es, kv :: kvs, .cons i1 i2 t, hk, .cons r t2, c => by
    refine .cons ?_ (entsS_back hw t (fun e he => hk e (List.mem_cons_of_mem _ he)) t2 fun p hp => c p (List.mem_cons_of_mem _ hp))
    obtain ⟨c1, v, ri⟩ := c p List.mem_cons_self
    obtain ⟨r1, z, rz, rr⟩ := r
    have rel : RelV v e.key ∧ (mixKind P w).hash (kOf p.1) = (toNK p.1).hash w := by
      have c1 : kSc p.1 = true := c1
      rw [r1] at i1
      obtain ⟨k, x⟩ := p
      obtain ⟨eh, ek, ev⟩ := e
      cases k with
      | int i =>
        cases ri
        rcases keyIs_shape (show keyIs (Sum.inl i) ek = true from i1) with ⟨j, t, q1, q2⟩ | ⟨j, t, q1, q2⟩
        · exact ⟨⟨t, by rw [q2, Sum.inl.inj q1]⟩, rfl⟩
        · cases q1
      | str s =>
        cases ri
        rcases keyIs_shape (show keyIs (Sum.inr (tx s)) ek = true from i1) with ⟨j, t, q1, q2⟩ | ⟨j, t, q1, q2⟩
        · cases q1
        · exact ⟨⟨t, by rw [q2, Sum.inr.inj q1]⟩, rfl⟩
      | _ => cases c1
    obtain ⟨k, k1, k2⟩ := hk e List.mem_cons_self
    have : k = kOf p.1 := (mixKind P w).inj _ _ _ k1 (by rw [← r1]; exact i1)
    exact ⟨⟨v, rel.1, ri⟩, by rw [k2, this, rel.2, hw], z, by rw [i2]; exact rz, rr⟩
theorem entsH_back {P : Program} {w : World} (hw : T.w = w) : ∀ {l : List (DV × DV)} {xs : List (NestedKey × Addr × Value)}, Paired (fun p q => q.1 = toNK p.1 ∧ RT T ρ F H p q.2) l xs → Paired (DEnt T ρ F H) l (xs.map (entryOfKey (nestedKind P w)))
  | _, _, .nil => .nil
  | p :: l, x :: xs, .cons r t => by
    rw [List.map_cons]
    refine .cons ?_ (entsH_back hw t)
    obtain ⟨r1, ri, z, rz, rr⟩ := r
    exact ⟨⟨.ref x.2.1, rfl, ri⟩, by rw [hw, ← r1]; rfl, z, rz, rr⟩
theorem RT.le (le : Le ρ F H ρ' F' H') {p : DV × DV} {b : Addr × Value} (r : RT T ρ F H p b) : RT T ρ' F' H' p b := ⟨r.1.le le, let ⟨v, a, b⟩ := r.2; ⟨v, a, b.le le⟩⟩
theorem RS.le (le : Le ρ F H ρ' F' H') {p : DV × DV} {b : Value} (r : RS T ρ F H p b) : RS T ρ' F' H' p b := let ⟨v, a, b⟩ := r; ⟨v, a, b.le le⟩
theorem storedH_eq {κ : Type} [DecidableEq κ] (xs : List (κ × Addr × Value)) (k : κ) (a : Addr) (v : Value) : storedH xs k a v = if xs.any (fun kv => decide (kv.1 = k)) = true then xs.map (fun kv => if kv.1 = k then (kv.1, kv.2.1, v) else kv) else xs ++ [(k, a, v)] := by
  have hany : xs.any (fun kv => decide (kv.1 = k)) = (atKey xs k).isSome := by
    rw [← atKey_eq]
    induction xs with
    | nil => rfl
    | cons x r ih =>
      rw [List.any_cons, List.find?_cons]
      cases decide (x.1 = k) with
      | true => rfl
      | false => exact (Bool.false_or _).trans ih
  rw [hany]
  cases q : atKey xs k with
  | none => rw [storedH_new q]; rfl
  | some p => rw [storedH_old q]; rfl
theorem obE_ok {P : Program} {w : World} {hp : Heap} {ob : Obj} (e : hp.get? a = some ob) : ObjOk P w H hp a (obE a ob) := ⟨e, ⟨ob, e⟩, fun _ _ h1 k => k _ h1⟩
/-- d[k] = v -/
theorem di_set {Q : Unit → Shared → Prop} {i : Nat} {x : DV} {vx : V} {ux : Value} (hw : T.w = X.w) (hu : A.units + 10 < cLine) (I : Inv X pins σ H sh) (rp : Rep T ρ F H h) (em : h[i]? = some (.dic false l)) (ea : ρ[i]? = some a) (hlen : (storeL l d x).length ≤ mx)
    (o : DOk T ρ F H a l) (c : ∀ p ∈ l, KC t p.1) (hd : KC t d) (r : RV T ρ F H d y) (ry : RelV y u) (rx : RV T ρ F H x vx) (rux : RelV vx ux)
    (hQ : ∀ ob s', Inv X pins σ (upd H a (obE a ob)) s' → Rep T ρ F (upd H a (obE a ob)) (h.set i (.dic false (storeL l d x))) → Le ρ F H ρ F (upd H a (obE a ob)) → Q () s') : wpAny (model X.prog X.w) A (setItem (.ref a) u ux) Q E sh := by
  have hm : a ∈ ρ := List.mem_of_getElem? ea
  have le : ∀ {ob}, Le ρ F H ρ F (upd H a (obE a ob)) := Le.put hm (rp.nf i a _ ea em rfl)
  obtain ⟨ob0, es0, ep0, g1, g2, g3, g4⟩ := o.obj
  have mu : Mut (H a) := by rw [g1]; exact True.intro
  have hz : l.length ≤ sizeLine := line_of o.len
  have nd : ((storeL l d x).map fun p => toNK p.1).Nodup := storeL_nodup (fun p hp => (c p hp).eq hd) o.nod
  have kc' : ∀ p ∈ storeL l d x, KC t p.1 := fun p hp => by
    rcases storeL_mem hp with ⟨q, hq, e⟩ | e
    · rw [e]; exact c q hq
    · rw [e]; exact hd
  have fin : ∀ {h' : Heap} {t' : Nat} (ob : Obj) es ep, Heap.SameBut a sh.heap h' → h'.get? a = some ob → ob.ExactDict → ob.data = .dict es ep → Paired (DEnt T ρ F (upd H a (obE a ob))) (storeL l d x) es.toList → Q () { sh with heap := h', toks := t' } := fun {h' t'} ob es ep hs e1 e2 e3 e4 =>
    hQ ob _ (d_write I mu hs ⟨ob, e1⟩ (obE_ok e1)) (rp.put em ea (by simp) (by simp) (by simp) rfl ⟨fun z => (nomatch z), o.sm, hlen, nd, by
      cases t with
      | true => exact .inl kc'
      | false => exact .inr kc', ob, es, ep, upd_same, e2, e3, e4⟩) le
  cases t with
  | true =>
    obtain ⟨b, rfl, ri⟩ := key_addr hd r
    obtain rfl : u = Value.ref b := ry
    obtain ⟨xs, h1, h2⟩ := dH hw I o c
    refine wpAny_setItem_heap (hsz := by rw [← Paired.length h2]; exact hz) (show A.in1.units + 8 < cLine by rw [Around.in1_units]; omega) (isH (X := X) I hd ri) h1 fun h' dd hs => ?_
    have pt := (colH h2 c hd).put (x := x) (g := fun b => (b.1, ux)) (nb := (b, ux)) (fun p b q => ⟨q.1, vx, rux, rx⟩) ⟨ri, vx, rux, rx⟩ (by rw [pair_keys (key := toNK) h2]; exact o.nod)
    rw [storedH_eq] at dd
    obtain ⟨ob, es, ep, k1, k2, k3, k4, k5, k6⟩ := dd
    refine fin ob es ep hs k1 k2 k3 ?_
    rw [k4]
    exact entsH_back hw (Paired.mapP pt fun p q z => ⟨z.1, z.2.le le⟩)
  | false =>
    obtain ⟨kvs, h1, h2⟩ := dS hw I o c
    obtain ⟨i1, _⟩ := kOf_is (P := X.prog) (w := X.w) hd (hd.imm r) ry
    refine wpAny_setItem_pairs (hsz := by rw [← Paired.length h2]; exact hz) i1 h1 fun h' dd hs => ?_
    have pt := (colS h2 c hd).put (x := x) (g := fun _ => ux) (nb := ux) (fun p b q => ⟨vx, rux, rx⟩) ⟨vx, rux, rx⟩ (by rw [pair_keys (key := kOf) h2]; exact nodup_k c o.nod)
    obtain ⟨ob, es, ep, k1, k2, k3, k4, k5, k6⟩ := dd
    refine fin ob es ep hs k1 k2 k3 ?_
    refine entsS_back hw k5 (fun e he => k4 e (Array.mem_toList_iff.mp he)) (Paired.mapP pt fun p q z => ⟨z.1, z.2.le le⟩) fun p hp => ⟨kc' p hp, ?_⟩
    rcases storeL_mem hp with ⟨q, hq, e⟩ | e
    · rw [e]
      obtain ⟨es1, he1⟩ := ent_mem g4 hq
      obtain ⟨v, _, ri⟩ := he1.key
      exact ⟨v, ri.le le⟩
    · rw [e]
      exact ⟨y, (hd.imm r).le le⟩
end
end SW
end
section
/-! Dicts walked. -/
namespace SW
open PySem PySem.Spec PyProof.Rows L2 SlX
variable {T : Tab} {O : Out} {ρ ρ1 ρ' : List Addr} {F F1 F' : Fz} {H H1 H' : Hp} {h h1 : CH} {s : SW.St} {σ : L2.St} {k : K} {x : KX} {Q : VK} {W : WX} {X : Cx} {E : XK}
/-! ### a dict that no one writes any more -/
theorem Le.lock {a : Addr} (hm : a ∈ ρ) : Le ρ F H ρ (fzA F a) H :=
  ⟨⟨[], by simp, by simp⟩, fun _ _ e _ => e, fun _ h => h, fun _ f => .inl f, fun b f => f.elim .inl fun e => .inr (.inr (by rw [e]; exact hm)), fun _ _ _ e => e⟩
theorem Rep.lock {a : Addr} {i : Nat} {b : Bool} {l : List (DV × DV)} (r : Rep T ρ F H h) (e : h[i]? = some (.dic b l)) (ea : ρ[i]? = some a) : Rep T ρ (fzA F a) H (h.set i (.dic true l)) ∧ Le ρ F H ρ (fzA F a) H := by
  have hm : a ∈ ρ := List.mem_of_getElem? ea
  have le : Le ρ F H ρ (fzA F a) H := Le.lock hm
  have hi : i < h.length := (List.getElem?_eq_some_iff.mp e).1
  refine ⟨⟨r.nod, r.trk, fun j x mo2 ex ej u => ?_, fun x f => ?_, fun j mo2 ej => ?_, by simp [r.len], fun j c l' ej => ?_⟩, le⟩
  · by_cases hj : i = j
    · subst hj
      rw [List.getElem?_set_self hi] at ej
      cases ej
      cases u
    · rw [List.getElem?_set_ne hj] at ej
      intro f
      rcases f with f | f
      · exact r.nf j x mo2 ex ej u f
      · exact hj (nodup_at r.nod ea (f ▸ ex))
  · rcases f with f | f
    · exact r.ft x f
    · rw [f]; exact r.trk a hm
  · by_cases hj : i = j
    · subst hj
      rw [List.getElem?_set_self hi] at ej
      cases ej
      obtain ⟨x, ex, m⟩ := r.cells i _ e
      rw [ea] at ex
      cases ex
      exact ⟨a, ea, fun _ => .inr rfl, m.2.le le rfl⟩
    · rw [List.getElem?_set_ne hj] at ej
      obtain ⟨x, ex, m⟩ := r.cells j mo2 ej
      exact ⟨x, ex, m.move le (fun _ _ _ => rfl) (List.mem_of_getElem? ex)⟩
  · by_cases hj : i = j
    · subst hj
      rw [List.getElem?_set_self hi] at ej
      cases ej
    · rw [List.getElem?_set_ne hj] at ej
      have q := r.dd j c l' ej
      by_cases hk : i = j + 1
      · subst hk
        rw [e] at q
        cases q
      · rw [List.getElem?_set_ne hk]; exact q
/-! ### its walks -/
/-- at a stands ob, a dict of the entries es -/
structure DRaw (a : Addr) (ob : Obj) (es : Array DictEntry) (ep : Nat) : Prop where
  ex : ob.ExactDict
  da : ob.data = .dict es ep
  sm : (a == sysModules) = false
def ItDk (a : Addr) (ob : Obj) (es : Array DictEntry) (sel : DictEntry → Value) : It :=
  ⟨fun i H => H a = some (obE a ob) ∧ ∃ e v, es[i]? = some e ∧ RelV v (sel e), fun i H x H' => H' = H ∧ ∃ e, es[i]? = some e ∧ RelV x (sel e), fun i H => H a = some (obE a ob) ∧ es.size = i⟩
def ItDi (a : Addr) (ob : Obj) (es : Array DictEntry) : It :=
  ⟨fun i H => H a = some (obE a ob) ∧ ∃ e k v, es[i]? = some e ∧ RelV k e.key ∧ RelV v e.val, fun i H x H' => ∃ t k v e, es[i]? = some e ∧ RelV k e.key ∧ RelV v e.val ∧ x = .ref t ∧ H t = none ∧ H' = upd H t (.tup [k, v]), fun i H => H a = some (obE a ob) ∧ es.size = i⟩
section
variable {P : Program} {w : World} {K : PySem.W.Frag} {tg : Expr} {a : Addr} {ob : Obj} {es : Array DictEntry} {ep : Nat} {pins : List (Addr × Obj)} {sh : Shared}
theorem DRaw.raw (d : DRaw a ob es ep) (I : Inv X pins σ H sh) (e : H a = some (obE a ob)) : sh.heap.DictRaw a es ep := ⟨ob, dic_at I e, d.ex, d.da⟩
theorem turn_dk (d : DRaw a ob es ep) (it : Addr) : Turn P w K tg (ItDk a ob es (·.key)) [it] it (fun i h => h.IsKeyIter it a i es.size ep) where
  mem := by simp
  obj := fun i h st b hb => by
    have e : b = it := by simpa using hb
    subst e
    obtain ⟨oi, e, c, dd⟩ := st
    exact ⟨oi, e, fun v z => by rw [dd] at z; cases z⟩
  keep := fun i h h' st k => st.at fun oi e => k it (by simp) oi e
  item := by
    intro X hP hw hK hc i pins s σ H E I hf st hg
    subst hP hw hK
    obtain ⟨hd, e, v, he, rv⟩ := hg
    obtain ⟨f0, f1, f2, f3, f4, f5⟩ := hf it (by simp)
    obtain ⟨hi, ei⟩ := Array.getElem?_eq_some_iff.mp he
    refine wpAny_pyNext_keys_item_raw st (d.raw I hd) hi fun h' st' sb => ?_
    have I1 : Inv X pins σ H { s with heap := h' } := I.turned (t' := s.toks) (fun b ob hb e => (sb.2 b hb).trans e) f0 f1 f3 f4 f5
    obtain ⟨oi, e1, c, dd⟩ := id st'
    exact ⟨_, rfl, go_of (s := { s with heap := h' }) e1 c dd (by decide) ⟨v, H, I1, by rw [ei]; exact rv, ⟨rfl, e, he, rv⟩, st', fun b hb => (hf b hb).1⟩⟩
  done := by
    intro X hP hw hK hc i pins s σ H E I hf st hg
    subst hP hw hK
    obtain ⟨hd, hi⟩ := hg
    obtain ⟨f0, f1, f2, f3, f4, f5⟩ := hf it (by simp)
    exact wpAny_pyNext_keys_end_raw (I.ok.hd hc) st (d.raw I hd) (Nat.le_of_eq hi) fun h' eb => ⟨rfl, I.turned (t' := s.toks) (fun b ob hb e => eb b ob hb e) f0 f1 f3 f4 f5⟩
  self := fun A i s Q E st h => wpAny_pyIter_keyiter st h
theorem turn_dv (d : DRaw a ob es ep) (it : Addr) : Turn P w K tg (ItDk a ob es (·.val)) [it] it (fun i h => h.IsValIter it a i es.size ep) where
  mem := by simp
  obj := fun i h st b hb => by
    have e : b = it := by simpa using hb
    subst e
    obtain ⟨oi, e, c, dd⟩ := st
    exact ⟨oi, e, fun v z => by rw [dd] at z; cases z⟩
  keep := fun i h h' st k => st.at fun oi e => k it (by simp) oi e
  item := by
    intro X hP hw hK hc i pins s σ H E I hf st hg
    subst hP hw hK
    obtain ⟨hd, e, v, he, rv⟩ := hg
    obtain ⟨f0, f1, f2, f3, f4, f5⟩ := hf it (by simp)
    obtain ⟨hi, ei⟩ := Array.getElem?_eq_some_iff.mp he
    refine wpAny_pyNext_values_item_raw st (d.raw I hd) hi fun h' st' sb => ?_
    have I1 : Inv X pins σ H { s with heap := h' } := I.turned (t' := s.toks) (fun b ob hb e => (sb.2 b hb).trans e) f0 f1 f3 f4 f5
    obtain ⟨oi, e1, c, dd⟩ := id st'
    exact ⟨_, rfl, go_of (s := { s with heap := h' }) e1 c dd (by decide) ⟨v, H, I1, by rw [ei]; exact rv, ⟨rfl, e, he, rv⟩, st', fun b hb => (hf b hb).1⟩⟩
  done := by
    intro X hP hw hK hc i pins s σ H E I hf st hg
    subst hP hw hK
    obtain ⟨hd, hi⟩ := hg
    obtain ⟨f0, f1, f2, f3, f4, f5⟩ := hf it (by simp)
    exact wpAny_pyNext_values_end_raw (I.ok.hd hc) st (d.raw I hd) (Nat.le_of_eq hi) fun h' eb => ⟨rfl, I.turned (t' := s.toks) (fun b ob hb e => eb b ob hb e) f0 f1 f3 f4 f5⟩
  self := fun A i s Q E st h => wpAny_pyIter_valiter st h
theorem turn_di {elts : List Expr} {kk : Nat} {tpos : Pos} (d : DRaw a ob es ep) (it : Addr) : Turn P w K (.Tuple elts kk tpos) (ItDi a ob es) [it] it (fun i h => ∃ ok ov, IsItemIter h it a i es.size ep ok ov) where
  mem := by simp
  obj := fun i h st b hb => by
    have e : b = it := by simpa using hb
    subst e
    obtain ⟨ok, ov, e⟩ := st
    exact ⟨_, e, fun v z => nomatch z⟩
  keep := fun i h h' st k => let ⟨ok, ov, e⟩ := st; ⟨ok, ov, k it (by simp) _ e⟩
  item := by
    intro X hP hw hK hc i pins s σ H E I hf st hg
    subst hP hw hK
    obtain ⟨hd, e, kx, v, he, rk, rv⟩ := hg
    obtain ⟨hi, ei⟩ := Array.getElem?_eq_some_iff.mp he
    obtain ⟨ok, ov, hit⟩ := st
    have hlt : it < s.heap.objs.size := Heap.lt_size hit
    refine wpAny_pyNext_items_item_raw hit (d.raw I hd) hi fun h' ho hT hz hk => ?_
    refine ⟨_, rfl, wpAny_letOwnedTupleGo_items (s := { s with heap := h' }) ho fun h'' he' sb => ?_⟩
    rw [ei] at hT he'
    have hT2 : h''.get? s.heap.objs.size = some { cls := .type "tuple", data := .seq #[e.key, e.val] } := (sb.2 _ (Nat.ne_of_gt hlt)).trans hT
    have new : ObjOk X.prog X.w (upd H s.heap.objs.size (.tup [kx, v])) h'' s.heap.objs.size (.tup [kx, v]) :=
      ⟨by show 2 ≤ sizeLine; decide, [e.key, e.val], .cons rk (.cons rv .nil), ⟨_, hT2, rfl, _, rfl⟩⟩
    have I1 : Inv X pins σ (upd H s.heap.objs.size (.tup [kx, v])) { s with heap := h'' } :=
      I.turnedNew (t' := s.toks) (ch := [it]) (fun b ob hb e => (sb.2 b (by simpa using hb)).trans (hk b ob (by simpa using hb) e)) hf (Nat.le_refl _) new
    refine ⟨.ref s.heap.objs.size, _, I1, rfl, ⟨_, kx, v, e, he, rk, rv, rfl, I.hok.fresh (Nat.le_refl _), rfl⟩, ⟨e.key, e.val, he'⟩, fun b hb => ?_⟩
    have e1 : b = it := by simpa using hb
    rw [e1, upd_ne (Nat.ne_of_lt hlt)]
    exact (hf it (by simp)).1
  done := by
    intro X hP hw hK hc i pins s σ H E I hf st hg
    subst hP hw hK
    obtain ⟨hd, hi⟩ := hg
    obtain ⟨f0, f1, f2, f3, f4, f5⟩ := hf it (by simp)
    obtain ⟨ok, ov, hit⟩ := st
    exact wpAny_pyNext_items_end_raw (I.ok.hd hc) hit (d.raw I hd) (Nat.le_of_eq hi) fun h' eb => ⟨rfl, I.turned (t' := s.toks) (fun b ob hb e => eb b ob hb e) f0 f1 f3 f4 f5⟩
  self := fun A i s Q E st h => let ⟨_, _, hit⟩ := st; wpAny_pyIter_itemiter hit h
theorem wpAny_dict_begin (d : DRaw a ob es ep) {R : It → Hp → Prop} (I : Inv X pins σ H sh) (e : H a = some (obE a ob)) (q : R (ItDk a ob es (·.key)) H) : wpAny (model X.prog X.w) X.A (pyIter (.ref a)) (PIE X pins σ tg R) X.xe sh :=
  wpAny_pyIter_dict_raw d.sm (d.raw I e) (pi_one (tk := sh.toks) I _ (turn_dk d _) ⟨_, Heap.get?_push_size _ rfl, rfl, rfl⟩ q)
/-- for .. in x: a list, a tuple, a text, a dict -/
theorem pi_valD {e : Expr} {te : TE} (he : PE X e te) : PI X tg e (fun σ H R => te σ H fun v H1 => (∃ n : Inn, n.val = v ∧ (∃ xs, n.has H1 xs) ∧ R (ItP X.K n) H1) ∨ ∃ a ob es ep, v = .ref a ∧ DRaw a ob es ep ∧ H1 a = some (obE a ob) ∧ R (ItDk a ob es (·.key)) H1) := by
  refine ⟨fun pins s σ H R I h => ?_⟩
  have p2 := he.run pins s σ H _ I h
  refine thn p2 fun v s1 ⟨x, H1, I1, r1, q⟩ => ?_
  rcases q with ⟨n, en, ⟨xs, hx⟩, q⟩ | ⟨a, ob, es, ep, ev, d, e1, q⟩
  · subst en
    cases n with
    | lst a =>
      cases r1
      obtain ⟨its, rv, p, hz⟩ := I1.list (.inl (.inl hx))
      exact wpAny_pyIter_list p.isList (pi_one (tk := s1.toks) I1 _ (turn_list a _) ⟨_, Heap.get?_push_size _ rfl, rfl, rfl⟩ q)
    | tup a =>
      cases r1
      obtain ⟨its, rv, p, hz⟩ := I1.tuple (.inl (.inl hx))
      exact wpAny_pyIter_tuple (show s1.heap.IsTuple a its.toArray from p) (pi_one (tk := s1.toks) I1 _ (turn_tuple a _) ⟨_, Heap.get?_push_size _ rfl, rfl, rfl⟩ q)
    | str z =>
      obtain ⟨t, rfl⟩ := r1
      cases ha : z.cps.all (· < 128)
      · exact wpAny_pyIter_wide ha (pi_one (tk := s1.toks) I1 _ (turn_str _ z t "str_iterator" (.inr rfl)) ⟨_, Heap.get?_push_size _ rfl, rfl, rfl⟩ q)
      · exact wpAny_pyIter_ascii ha (pi_one (tk := s1.toks) I1 _ (turn_str _ z t "str_ascii_iterator" (.inl rfl)) ⟨_, Heap.get?_push_size _ rfl, rfl, rfl⟩ q)
  · subst ev
    obtain rfl : v = Value.ref a := r1
    exact wpAny_dict_begin d I1 e1 q
theorem DRaw.noDict (d : DRaw a ob es ep) (I : Inv X pins σ H sh) (e : H a = some (obE a ob)) : sh.TypeIs (.ref a) "dict" ∧ ∀ b, Value.ref a = .ref b → ∃ ob, sh.heap.get? b = some ob ∧ ob.dict = none :=
  ⟨⟨ob, dic_at I e, d.ex.1⟩, fun b z => by cases z; exact ⟨ob, dic_at I e, d.ex.2.1⟩⟩
def tDI (J : Addr → Obj → Array DictEntry → It) (te : TE) : TI := fun σ H R => te σ H fun v H1 => ∃ a ob es ep, v = .ref a ∧ DRaw a ob es ep ∧ H1 a = some (obE a ob) ∧ R (J a ob es) H1
theorem pi_valuesD {e : Expr} {te : TE} {apos cpos : Pos} (he : PE X e te) (hbase : attributeBase e "values" X.env (eval e X.env) = eval e X.env) (hline : (apos.endLine == cpos.line) = true) :
    PI X tg (.Call (.Attribute e "values" apos) [] [] cpos) (tDI (fun a ob es => ItDk a ob es (·.val)) te) := by
  refine ⟨fun pins s σ H R I h => ?_⟩
  refine wpAny_Call_method (T := "dict") (id := "dict.values") hbase rfl hline PySem.F.plainAttrs_dict PySem.F.slot_dict_values PySem.F.type_dict_values (thn (he.run pins s σ H _ I h) fun u s1 ⟨x, H1, I1, rx, a, ob, es, ep, ex, d, e1, q⟩ => ?_)
  subst ex
  obtain rfl : u = Value.ref a := rx
  refine ⟨(d.noDict I1 e1).1, (d.noDict I1 e1).2, ?_⟩
  have I2 : Inv X pins σ H1 { s1 with heap := s1.heap.push { cls := .type "dict_values", data := .fields #[.ref a] } } := I1.kept (t' := s1.toks) fun b ob q => Heap.get?_push_of_some _ q
  have fin : wpAny (model X.prog X.w) X.A (pyIter (.ref s1.heap.objs.size)) (PIE X pins σ tg R) X.xe { s1 with heap := s1.heap.push { cls := .type "dict_values", data := .fields #[.ref a] } } :=
    wpAny_pyIter_values_raw (d := a) ⟨_, Heap.get?_push_size _ rfl, rfl, rfl⟩ (d.raw I2 e1) (pi_one (tk := s1.toks) I2 _ (turn_dv d _) ⟨_, Heap.get?_push_size _ rfl, rfl, rfl⟩ q)
  show wpAny _ _ (callWith cpos (.builtin "dict.values") [.ref a] [] []) _ X.xe s1
  exact method_meetsIn PySem.F.slot_dict_values PySem.F.entry_dict_values rfl (PySem.evalArgs_none ⟨rfl, (d.noDict I1 e1).1, PySem.F.args_dict_values_1 _, _, meets_dict_values_raw a d.sm, ⟨_, _, d.raw I1 e1⟩, fin⟩)
theorem pi_itemsD {e : Expr} {te : TE} {apos cpos : Pos} {elts : List Expr} {kk : Nat} {tpos : Pos} (he : PE X e te) (hbase : attributeBase e "items" X.env (eval e X.env) = eval e X.env) (hline : (apos.endLine == cpos.line) = true) :
    PI X (.Tuple elts kk tpos) (.Call (.Attribute e "items" apos) [] [] cpos) (tDI ItDi te) := by
  refine ⟨fun pins s σ H R I h => ?_⟩
  refine wpAny_Call_method (T := "dict") (id := "dict.items") hbase rfl hline PySem.F.plainAttrs_dict PySem.F.slot_dict_items PySem.F.type_dict_items (thn (he.run pins s σ H _ I h) fun u s1 ⟨x, H1, I1, rx, a, ob, es, ep, ex, d, e1, q⟩ => ?_)
  subst ex
  obtain rfl : u = Value.ref a := rx
  refine ⟨(d.noDict I1 e1).1, (d.noDict I1 e1).2, ?_⟩
  have I2 : Inv X pins σ H1 { s1 with heap := s1.heap.push { cls := .type "dict_items", data := .fields #[.ref a] } } := I1.kept (t' := s1.toks) fun b ob q => Heap.get?_push_of_some _ q
  have fin : wpAny (model X.prog X.w) X.A (pyIter (.ref s1.heap.objs.size)) (PIE X pins σ (.Tuple elts kk tpos) R) X.xe { s1 with heap := s1.heap.push { cls := .type "dict_items", data := .fields #[.ref a] } } :=
    wpAny_pyIter_items_raw (d := a) ⟨_, Heap.get?_push_size _ rfl, rfl, rfl⟩ (d.raw I2 e1) (pi_one (tk := s1.toks) I2 _ (turn_di d _) ⟨_, _, Heap.get?_push_size _ rfl⟩ q)
  show wpAny _ _ (callWith cpos (.builtin "dict.items") [.ref a] [] []) _ X.xe s1
  exact method_meetsIn PySem.F.slot_dict_items PySem.F.entry_dict_items rfl (PySem.evalArgs_none ⟨rfl, (d.noDict I1 e1).1, PySem.F.args_dict_items_1 _, _, meets_dict_items_raw a d.sm, ⟨_, _, d.raw I1 e1⟩, fin⟩)
end
/-! ### codes -/
noncomputable section
def keysD (l : List (DV × DV)) : List DV := @List.rec (DV × DV) (fun _ => List DV) [] (fun p _ ih => p.1 :: ih) l
def valsD (l : List (DV × DV)) : List DV := @List.rec (DV × DV) (fun _ => List DV) [] (fun p _ ih => p.2 :: ih) l
def itemsD (l : List (DV × DV)) (k : List DV → A) : A := @List.rec (DV × DV) (fun _ => (List DV → A) → A) (fun k => k []) (fun p _ ih k => bsel (nr p.2) (ih fun r => k (.tup [p.1, p.2] :: r)) none) l k
def mDic (mo : MO) (f : Bool → List (DV × DV) → A) : A := @MO.rec (fun _ => A) (fun _ _ => none) (fun b l => f b l) (fun _ _ => none) none none none mo
def lockK (h : CH) (i : Nat) (b : Bool) (l : List (DV × DV)) (k : CH → A) : A := putK h i (.dic true l) k
def srcD (d : DV) (h : CH) (k : Src → CH → A) : A := @DV.rec (fun _ => A) (fun _ => Unit) none (fun _ => none) (fun _ => none) (fun s => k (.fix (chars s)) h) (fun l _ => k (.fix l) h) (fun l _ => k (.fix l) h) (fun _ _ _ => none) (fun _ _ => none)
  (fun i => nthK h i fun mo => @MO.rec (fun _ => A) (fun _ _ => k (.cell i) h) (fun b l => lockK h i b l fun h => k (.fix (keysD l)) h) (fun _ _ => none) none none none mo) () (fun _ _ _ _ => ()) d
def iValD (c : Code) : ICode := fun s h k x => c s h (fun d h => srcD d h k) x
def iValues (c : Code) : ICode := fun s h k x => c s h (fun d h => dCell d fun i => nthK h i fun mo => mDic mo fun b l => lockK h i b l fun h => k (.fix (valsD l)) h) x
def iItems (c : Code) : ICode := fun s h k x => c s h (fun d h => dCell d fun i => nthK h i fun mo => mDic mo fun b l => lockK h i b l fun h => itemsD l fun r => k (.fix r) h) x
end
theorem keysD_eq : ∀ l : List (DV × DV), keysD l = l.map (·.1)
  | [] => rfl
  | p :: l => congrArg (p.1 :: ·) (keysD_eq l)
theorem valsD_eq : ∀ l : List (DV × DV), valsD l = l.map (·.2)
  | [] => rfl
  | p :: l => congrArg (p.2 :: ·) (valsD_eq l)
theorem itemsD_some : ∀ {l : List (DV × DV)} {k : List DV → A}, itemsD l k = some O → (∀ p ∈ l, nr p.2 = true) ∧ k (l.map fun p => .tup [p.1, p.2]) = some O
  | [], k, e => ⟨fun _ h => (nomatch h), e⟩
  | p :: l, k, e => by
    obtain ⟨e1, e2⟩ := bsel_some (show bsel (nr p.2) (itemsD l fun r => k (.tup [p.1, p.2] :: r)) none = some O from e)
    obtain ⟨e3, e4⟩ := itemsD_some e2
    exact ⟨fun z hz => (List.mem_cons.mp hz).elim (fun q => q ▸ e1) (e3 z), e4⟩
theorem mDic_some {mo : MO} {f : Bool → List (DV × DV) → A} (e : mDic mo f = some O) : ∃ b l, mo = .dic b l ∧ f b l = some O := by
  cases mo with
  | dic b l => exact ⟨b, l, rfl, e⟩
  | _ => cases e
/-- a cell that holds a dict, locked -/
structure DLk (T : Tab) (ρ : List Addr) (F : Fz) (H : Hp) (l : List (DV × DV)) (a : Addr) (ob : Obj) (es : Array DictEntry) (ep : Nat) : Prop where
  raw : DRaw a ob es ep
  at' : H a = some (obE a ob)
  fz : F a
  ent : Paired (DEnt T ρ F H) l es.toList
theorem ent_get : ∀ {l : List (DV × DV)} {L : List DictEntry} {i : Nat} {p : DV × DV}, Paired (DEnt T ρ F H) l L → l[i]? = some p → ∃ e, L[i]? = some e ∧ DEnt T ρ F H p e
  | _, _, 0, _, .cons z _, e => by cases e; exact ⟨_, rfl, z⟩
  | _, _, i + 1, _, .cons _ t, e => by
    obtain ⟨e1, h1, h2⟩ := ent_get (i := i) t (by simpa using e)
    exact ⟨e1, by simpa using h1, h2⟩
theorem DEnt.le (a : Le ρ F H ρ1 F1 H1) {p : DV × DV} {e : DictEntry} (d : DEnt T ρ F H p e) : DEnt T ρ1 F1 H1 p e := d.mono a.fr a.fz (fun q => a.at q)
theorem DLk.len {l : List (DV × DV)} {a : Addr} {ob : Obj} {es : Array DictEntry} {ep : Nat} (d : DLk T ρ F H l a ob es ep) : l.length = es.size := (Paired.length d.ent).trans (Array.length_toList)
theorem DLk.get {l : List (DV × DV)} {a : Addr} {ob : Obj} {es : Array DictEntry} {ep i : Nat} {p : DV × DV} (d : DLk T ρ F H l a ob es ep) (e : l[i]? = some p) : ∃ en, es[i]? = some en ∧ DEnt T ρ F H p en := by
  obtain ⟨en, h1, h2⟩ := ent_get d.ent e
  exact ⟨en, by rw [← Array.getElem?_toList]; exact h1, h2⟩
theorem lock_some {d : DV} {v : V} {kk : Nat → Bool → List (DV × DV) → CH → A} (e : (dCell d fun i => nthK h i fun mo => mDic mo fun b l => lockK h i b l fun h => kk i b l h) = some O) (rp : Rep T ρ F H h) (r : RV T ρ F H d v) :
    ∃ i b l h1 a ob es ep F1, v = .ref a ∧ kk i b l h1 = some O ∧ Rep T ρ F1 H h1 ∧ Le ρ F H ρ F1 H ∧ DLk T ρ F1 H l a ob es ep := by
  obtain ⟨i, rfl, e1⟩ := dCell_some e
  obtain ⟨mo, em, e2⟩ := nthK_some e1
  obtain ⟨b, l, rfl, e3⟩ := mDic_some e2
  obtain ⟨a, ea, _, m⟩ := rp.cells i _ em
  obtain ⟨a', ev, ea'⟩ := r.ref_inv
  rw [ea] at ea'
  cases ea'
  obtain ⟨hi, e4⟩ := putK_some (show putK h i (.dic true l) _ = some O from e3)
  obtain ⟨rp2, le⟩ := rp.lock em ea
  obtain ⟨ob, es, ep, h1, h2, h3, h4⟩ := m.obj
  exact ⟨i, b, l, _, a, ob, es, ep, _, ev, e4, rp2, le, ⟨h2, h3, m.sm⟩, h1, .inr rfl, Paired.mapP h4 fun _ _ q => q.le le⟩
section
variable {l : List (DV × DV)} {a : Addr} {ob : Obj} {es : Array DictEntry} {ep : Nat}
theorem srcOk_keys (d : DLk T ρ F H l a ob es ep) : SrcOk T (ItDk a ob es (·.key)) ρ F H (.fix (keysD l)) := by
  rw [keysD_eq]
  refine srcAt_fix (fun i e hi ρ1 F1 H1 h le rp => ?_) fun ρ1 F1 H1 h le rp => ⟨le.fr _ _ d.fz d.at', by rw [List.length_map]; exact d.len.symm⟩
  rw [List.getElem?_map] at hi
  obtain ⟨p, hp, rfl⟩ := Option.map_eq_some_iff.mp hi
  obtain ⟨en, h1, h2⟩ := d.get hp
  obtain ⟨v, rv, ri⟩ := h2.key
  refine ⟨⟨le.fr _ _ d.fz d.at', en, v, h1, rv⟩, fun u H' hy => ?_⟩
  obtain ⟨rfl, e2, h3, ru⟩ := hy
  rw [h1] at h3
  cases h3
  rw [RelV.inj ru rv]
  exact ⟨F1, .refl, rp, .imm (ri.le le)⟩
theorem srcOk_vals (d : DLk T ρ F H l a ob es ep) : SrcOk T (ItDk a ob es (·.val)) ρ F H (.fix (valsD l)) := by
  rw [valsD_eq]
  refine srcAt_fix (fun i e hi ρ1 F1 H1 h le rp => ?_) fun ρ1 F1 H1 h le rp => ⟨le.fr _ _ d.fz d.at', by rw [List.length_map]; exact d.len.symm⟩
  rw [List.getElem?_map] at hi
  obtain ⟨p, hp, rfl⟩ := Option.map_eq_some_iff.mp hi
  obtain ⟨en, h1, h2⟩ := d.get hp
  obtain ⟨v, rv, ri⟩ := h2.val
  refine ⟨⟨le.fr _ _ d.fz d.at', en, v, h1, rv⟩, fun u H' hy => ?_⟩
  obtain ⟨rfl, e2, h3, ru⟩ := hy
  rw [h1] at h3
  cases h3
  rw [RelV.inj ru rv]
  exact ⟨F1, .refl, rp, ri.le le⟩
theorem srcOk_items (d : DLk T ρ F H l a ob es ep) (hn : ∀ p ∈ l, nr p.2 = true) : SrcOk T (ItDi a ob es) ρ F H (.fix (l.map fun p => .tup [p.1, p.2])) := by
  refine srcAt_fix (fun i e hi ρ1 F1 H1 h le rp => ?_) fun ρ1 F1 H1 h le rp => ⟨le.fr _ _ d.fz d.at', by rw [List.length_map]; exact d.len.symm⟩
  rw [List.getElem?_map] at hi
  obtain ⟨p, hp, rfl⟩ := Option.map_eq_some_iff.mp hi
  obtain ⟨en, h1, h2⟩ := d.get hp
  obtain ⟨v, rv, ri⟩ := h2.key
  obtain ⟨y, ry, rj⟩ := h2.val
  refine ⟨⟨le.fr _ _ d.fz d.at', en, v, y, h1, rv, ry⟩, fun u H' hy => ?_⟩
  obtain ⟨t, k1, v1, e2, h3, r1, r2, rfl, hn1, rfl⟩ := hy
  rw [h1] at h3
  cases h3
  rw [RelV.inj r1 rv, RelV.inj r2 ry]
  have l2 : Le ρ1 F1 H1 ρ1 (fzA F1 t) (upd H1 t (.tup [v, y])) := Le.new hn1
  exact ⟨_, l2, rp.new hn1, .imm (.tup fzA_self upd_same (.cons (ri.le (le.trans l2)) (.cons ((rj.imm_of (hn p (List.mem_of_getElem? hp))).le (le.trans l2)) .nil)) (by decide : 2 ≤ 1000000))⟩
end
theorem sndi_valD {tg e : Expr} {c : Code} (he : Snd T X W e c) : SndI T X W tg e (iValD c) := by
  refine PI.imp (pi_valD he) fun σ H R hq => ?_
  obtain ⟨O, ρ, F, s, h, k, x, rp, rs, e, pk, px⟩ := hq
  refine RdE.seq rp rs e px fun u h1 ρ1 F1 H1 u' e1 l1 r1 ru rs1 px1 => ?_
  have old : srcOf u h1 k = some O → (∃ n : Inn, n.val = u' ∧ (∃ xs, n.has H1 xs) ∧ R (ItP X.K n) H1) := fun e => by
    obtain ⟨n, src, ev, hx, e2, ok⟩ := inn_of e r1 ru
    exact ⟨n, ev, hx, pk src h1 e2 ρ1 F1 H1 _ l1 r1 (srcOk_plain ok)⟩
  cases u with
  | ref i =>
    obtain ⟨mo, em, e2⟩ := nthK_some (show nthK h1 i (fun mo => @MO.rec (fun _ => A) (fun _ _ => k (.cell i) h1) (fun b l => lockK h1 i b l fun h => k (.fix (keysD l)) h) (fun _ _ => none) none none none mo) = some O from e1)
    cases mo with
    | lst n l =>
      refine .inl (old ?_)
      show nthK h1 i (fun mo => mLst mo fun _ _ => k (.cell i) h1) = some O
      rw [nthK_eq, em]
      exact e2
    | dic b l =>
      have e3 : (dCell (.ref i) fun i => nthK h1 i fun mo => mDic mo fun b l => lockK h1 i b l fun h => (fun _ _ l h => k (.fix (keysD l)) h) i b l h) = some O := by
        show nthK h1 i _ = some O
        rw [nthK_eq, em]
        exact e2
      obtain ⟨i2, b2, l2, h2, a, ob, es, ep, F2, ev, e4, r2, le, d⟩ := lock_some e3 r1 ru
      refine .inr ⟨a, ob, es, ep, ev, d.raw, d.at', pk _ _ e4 ρ1 F2 H1 _ (l1.trans le) r2 (srcOk_keys d)⟩
    | _ => cases e2
  | str z => exact .inl (old e1)
  | tup z => exact .inl (old e1)
  | lst z => exact .inl (old e1)
  | _ => cases e1
section
variable {tg e : Expr} {c : Code} {apos cpos : Pos}
theorem sndi_values (he : Snd T X W e c) (hbase : attributeBase e "values" X.env (eval e X.env) = eval e X.env) (hline : (apos.endLine == cpos.line) = true) : SndI T X W tg (.Call (.Attribute e "values" apos) [] [] cpos) (iValues c) := by
  refine PI.imp (pi_valuesD he hbase hline) fun σ H R hq => ?_
  obtain ⟨O, ρ, F, s, h, k, x, rp, rs, e, pk, px⟩ := hq
  refine RdE.seq rp rs e px fun u h1 ρ1 F1 H1 u' e1 l1 r1 ru rs1 px1 => ?_
  obtain ⟨i2, b2, l2, h2, a, ob, es, ep, F2, ev, e4, r2, le, d⟩ := lock_some (kk := fun _ _ l h => k (.fix (valsD l)) h) e1 r1 ru
  exact ⟨a, ob, es, ep, ev, d.raw, d.at', pk _ _ e4 ρ1 F2 H1 _ (l1.trans le) r2 (srcOk_vals d)⟩
theorem sndi_items {elts : List Expr} {kk : Nat} {tpos : Pos} (he : Snd T X W e c) (hbase : attributeBase e "items" X.env (eval e X.env) = eval e X.env) (hline : (apos.endLine == cpos.line) = true) : SndI T X W (.Tuple elts kk tpos) (.Call (.Attribute e "items" apos) [] [] cpos) (iItems c) := by
  refine PI.imp (pi_itemsD he hbase hline) fun σ H R hq => ?_
  obtain ⟨O, ρ, F, s, h, k, x, rp, rs, e, pk, px⟩ := hq
  refine RdE.seq rp rs e px fun u h1 ρ1 F1 H1 u' e1 l1 r1 ru rs1 px1 => ?_
  obtain ⟨i2, b2, l2, h2, a, ob, es, ep, F2, ev, e4, r2, le, d⟩ := lock_some (kk := fun _ _ l h => itemsD l fun r => k (.fix r) h) e1 r1 ru
  obtain ⟨hn, e5⟩ := itemsD_some e4
  exact ⟨a, ob, es, ep, ev, d.raw, d.at', pk _ _ e5 ρ1 F2 H1 _ (l1.trans le) r2 (srcOk_items d hn)⟩
end
end SW
end
section
/-! Dicts: subscripts, in, get, stores, {}, list. -/
namespace SW
open PySem PySem.Spec PyProof.Rows L2 SlX
variable {T : Tab} {O : Out} {ρ ρ1 ρ' : List Addr} {F F1 F' : Fz} {H H1 H' : Hp} {h h1 : CH} {s : SW.St} {σ : L2.St} {k : K} {x : KX} {Q : VK} {W : WX} {X : Cx} {E : XK}
noncomputable section
/-- by a cell that holds a dict; all others -/
def dicK (d : DV) (h : CH) (zd : Nat → Bool → List (DV × DV) → A) (zo : A) : A := @DV.rec (fun _ => A) (fun _ => Unit) zo (fun _ => zo) (fun _ => zo) (fun _ => zo) (fun _ _ => zo) (fun _ _ => zo) (fun _ _ _ => zo) (fun _ _ => zo)
  (fun i => nthK h i fun mo => @MO.rec (fun _ => A) (fun _ _ => zo) (fun b l => zd i b l) (fun _ _ => zo) zo zo zo mo) () (fun _ _ _ _ => ()) d
def oIxD : Op2 := fun a b h k => dicK a h (fun _ _ l => keyK l b (lookK l b (fun v => k v h) none)) (oIx a b h k)
def oInX (neg : Bool) : Op2 := fun a b h k => dicK b h (fun _ _ l => keyK l a (lookK l a (fun _ => kB (!neg) h k) (kB neg h k))) (oInN neg a b h k)
def getK (l : List (DV × DV)) (a : DV) (h : CH) (k : K) (z : DV) : A := keyK l a (lookK l a (fun v => k v h) (k z h))
def mGet : OpM := fun d ds h k => dCell d fun i => nthK h i fun mo => mDic mo fun _ l => @List.rec DV (fun _ => A) none (fun a r _ => @List.rec DV (fun _ => A) (getK l a h k .non) (fun z r2 _ => @List.rec DV (fun _ => A) (getK l a h k z) (fun _ _ _ => none) r2) r) ds
/-- o[i] = v -/
abbrev Op3 := DV → DV → DV → CH → (CH → A) → A
def lineD (l : List (DV × DV)) (z : A) : A := lenK l 0 fun n => bsel (Nat.ble n 1000000) z none
def setAt (l : List DV) (i : Int) (v : DV) (k : List DV → A) : A := @Int.rec (fun _ => A) (fun n => putK l n v k) (fun m => lenK l 0 fun n => bsel (Nat.ble (Nat.succ m) n) (putK l (Nat.sub n (Nat.succ m)) v k) none) i
def oSet : Op3 := fun o i v h k => dCell o fun j => nthK h j fun mo => @MO.rec (fun _ => A) (fun n l => dInt i fun i => setAt l i v fun l => putM h j n l k)
  (fun b l => bsel b none (keyK l i (storeK l i v [] fun l => lineD l (putK h j (.dic false l) k)))) (fun _ _ => none) none none none mo
def gSubC (co ci : Code) (st : Op3) : GCode := fun d s h n x => co s h (fun o h => ci s h (fun i h => st o i d h fun h => n s h) (x s)) (x s)
def eDic0 : Code := fun _ h k _ => appK h [.dic false []] fun h' => lenK h 0 fun n => k (.ref n) h'
/-- list(d) too -/
def oListD (mk : Bool) : OpL := fun ds h k => arg1 ds fun a => dicK a h (fun _ _ l => lineD l (mkL mk (keysD l) h k)) (oList mk ds h k)
def eLVals (mk : Bool) (c : Code) : Code := fun s h k x => c s h (fun d h => dCell d fun i => nthK h i fun mo => mDic mo fun _ l => mkL mk (valsD l) h k) x
def eLenD (c : Code) : Code := fun s h k x => c s h (fun d h => dCell d fun i => nthK h i fun mo => mDic mo fun _ l => lenK l 0 fun n => k (.int (.ofNat n)) h) x
end
theorem dicK_some {d : DV} {v : V} {zd : Nat → Bool → List (DV × DV) → A} {zo : A} (e : dicK d h zd zo = some O) (rp : Rep T ρ F H h) (r : RV T ρ F H d v) :
    zo = some O ∨ ∃ i b l a, d = .ref i ∧ h[i]? = some (.dic b l) ∧ ρ[i]? = some a ∧ v = .ref a ∧ DOk T ρ F H a l ∧ zd i b l = some O := by
  cases d with
  | ref i =>
    obtain ⟨mo, em, e1⟩ := nthK_some (show nthK h i _ = some O from e)
    cases mo with
    | dic b l =>
      obtain ⟨a, ea, _, m⟩ := rp.cells i _ em
      obtain ⟨a', ev, ea'⟩ := r.ref_inv
      rw [ea] at ea'
      cases ea'
      exact .inr ⟨i, b, l, a, rfl, em, ea, ev, m, e1⟩
    | _ => exact .inl e1
  | _ => exact .inl e
theorem lookK_some {l : List (DV × DV)} {d : DV} {f : DV → A} {z : A} (e : lookK l d f z = some O) : (∃ v, lookL l d = some v ∧ f v = some O) ∨ (lookL l d = none ∧ z = some O) := by
  rw [lookK_eq] at e
  cases q : lookL l d with
  | none => rw [q] at e; exact .inr ⟨rfl, e⟩
  | some v => rw [q] at e; exact .inl ⟨v, rfl, e⟩
/-- behind a subscription's two values -/
theorem tail_of {prog : Program} {w : World} {A : Around} {E : Value → Shared → Prop} {s : Shared} {value slice : Expr} {ty id : String} {o i : Value} {Q : Value → Shared → Prop}
    (hl : typeLookup (.type ty) "__getitem__" = pure (some (.builtin id))) (hT : s.TypeIs o ty) (hs : subscripted slice false o i = operate [o, i] (getItem o i)) (h : wpAny (model prog w) A (getItem o i) Q E s) :
    wpAny (model prog w) A (subscriptTail value slice o i) Q E s := by
  unfold subscriptTail
  refine wpAny_bind ?_
  rw [getitemInPython_of_ne hT.not_modules]
  refine wpAny_bind (wpAny_specialOf hT hl ?_)
  have fin : wpAny (model prog w) A (subscripted slice false o i) (fun r s₃ => wpAny (model prog w) A (letTemporaryGo value o r >>= fun _ => pure r) Q E s₃) E s := by
    rw [hs]
    exact wpAny_operating (wpAny_mono h (fun r s₃ h₃ => wpAny_bind (wpAny_letTemporaryGo (wpAny_pure h₃))) fun _ _ x => x)
  first
    | exact wpAny_pure (wpAny_bind fin)
    | exact wpAny_bind (wpAny_pure (wpAny_bind fin))
    | exact wpAny_bind fin
theorem ir_ixD (hw : T.w = X.w) (hu : X.A.units + 10 < cLine) : IxR X (RdO T oIxD) := by
  intro value slice pins st σ H x y v u Q I rx ry hq hs
  obtain ⟨O, ρ, F, d, e, h, k, rp, rd, re, eq, pk⟩ := hq
  rcases dicK_some eq rp rd with e1 | ⟨i, b, l, a, ed, em, ea, ev, m, e1⟩
  · exact ir_ix value slice pins st σ H x y v u Q I rx ry ⟨O, ρ, F, d, e, h, k, rp, rd, re, e1, pk⟩ hs
  · subst ed ev
    obtain rfl : v = Value.ref a := rx
    obtain ⟨t, hc, hk, e2⟩ := keyK_some m e1
    rcases lookK_some e2 with ⟨w, e3, e4⟩ | ⟨_, e4⟩
    · refine tail_of PySem.F.slot_dict_getitem.lookup (dTypeIs I m) hs (di_get hw hu I m hc hk re ry e3 fun z w' s' I' rz rr => ⟨z, H, I', rz, pk _ _ e4 ρ F H z .refl rp rr⟩)
    · cases e4
theorem get_ixD (hw : T.w = X.w) (hu : X.A.units + 10 < cLine) (hg : PGet X (RdO T oIx)) : PGet X (RdO T oIxD) := by
  intro pins st σ H x y v u Q I rx ry hq
  obtain ⟨O, ρ, F, d, e, h, k, rp, rd, re, eq, pk⟩ := hq
  rcases dicK_some eq rp rd with e1 | ⟨i, b, l, a, ed, em, ea, ev, m, e1⟩
  · exact hg pins st σ H x y v u Q I rx ry ⟨O, ρ, F, d, e, h, k, rp, rd, re, e1, pk⟩
  · subst ed ev
    obtain rfl : v = Value.ref a := rx
    obtain ⟨t, hc, hk, e2⟩ := keyK_some m e1
    rcases lookK_some e2 with ⟨w, e3, e4⟩ | ⟨_, e4⟩
    · exact di_get hw hu I m hc hk re ry e3 fun z w' s' I' rz rr => ⟨z, H, I', rz, pk _ _ e4 ρ F H z .refl rp rr⟩
    · cases e4
theorem or_inX (hw : T.w = X.w) (hu : X.A.units + 65 < cLine) : OpR X (compareOp .In) (RdO T (oInX false)) := by
  intro pins st σ H x y v u Q I rx ry hq
  obtain ⟨O, ρ, F, d, e, h, k, rp, rd, re, eq, pk⟩ := hq
  rcases dicK_some eq rp re with e1 | ⟨i, b, l, a, ed, em, ea, ev, m, e1⟩
  · exact or_in hu pins st σ H x y v u Q I rx ry ⟨O, ρ, F, d, e, h, k, rp, rd, re, e1, pk⟩
  · subst ed ev
    obtain rfl : u = Value.ref a := ry
    obtain ⟨t, hc, hk, e2⟩ := keyK_some m e1
    rcases lookK_some e2 with ⟨w, e3, e4⟩ | ⟨e3, e4⟩
    · exact di_in hw (by omega) I m hc hk rd rx fun s' I' => ⟨.bl true, H, I', by rw [e3]; rfl, pk.now rp e4 (.bl _)⟩
    · exact di_in hw (by omega) I m hc hk rd rx fun s' I' => ⟨.bl false, H, I', by rw [e3]; rfl, pk.now rp e4 (.bl _)⟩
theorem or_notInX (hw : T.w = X.w) (hu : X.A.units + 65 < cLine) : OpR X (compareOp .NotIn) (RdO T (oInX true)) := by
  intro pins st σ H x y v u Q I rx ry hq
  obtain ⟨O, ρ, F, d, e, h, k, rp, rd, re, eq, pk⟩ := hq
  rcases dicK_some eq rp re with e1 | ⟨i, b, l, a, ed, em, ea, ev, m, e1⟩
  · exact or_notIn hu pins st σ H x y v u Q I rx ry ⟨O, ρ, F, d, e, h, k, rp, rd, re, e1, pk⟩
  · subst ed ev
    obtain rfl : u = Value.ref a := ry
    obtain ⟨t, hc, hk, e2⟩ := keyK_some m e1
    rcases lookK_some e2 with ⟨w, e3, e4⟩ | ⟨e3, e4⟩
    · exact di_notIn hw (by omega) I m hc hk rd rx fun s' I' => ⟨.bl false, H, I', by rw [e3]; rfl, pk.now rp e4 (.bl _)⟩
    · exact di_notIn hw (by omega) I m hc hk rd rx fun s' I' => ⟨.bl true, H, I', by rw [e3]; rfl, pk.now rp e4 (.bl _)⟩
theorem bm_get (hw : T.w = X.w) (hu : X.A.units + 10 < cLine) : BMeth X T "dict" "get" (RdM T mGet) := by
  refine ⟨PySem.F.plainAttrs_dict, _, PySem.F.slot_dict_get, PySem.F.type_dict_get, ?_⟩
  intro pins st σ H x vs v us Q I rx rvs hq
  obtain ⟨O, ρ, F, d, ds, h, k, rp, rd, rds, e, pk⟩ := hq
  obtain ⟨i, rfl, e1⟩ := dCell_some e
  obtain ⟨mo, em, e2⟩ := nthK_some e1
  obtain ⟨b, l, rfl, e3⟩ := mDic_some e2
  obtain ⟨a, ea, _, m⟩ := rp.cells i _ em
  obtain ⟨a', ev, ea'⟩ := rd.ref_inv
  rw [ea] at ea'
  cases ea'
  subst ev
  obtain rfl : v = Value.ref a := rx
  cases rds with
  | nil => cases e3
  | @cons kd kv _ _ rk r1 =>
    cases rvs with
    | @cons _ uk _ _ ruk ru1 =>
      cases r1 with
      | nil =>
        cases ru1
        obtain ⟨t, hc, hk, e4⟩ := keyK_some m (show getK l kd h k .non = some O from e3)
        refine di_get1 hw hu I m hc hk rk ruk fun z w' s' I' rz f1 f2 => ⟨z, H, I', rz, ?_⟩
        rcases lookK_some e4 with ⟨w, e5, e6⟩ | ⟨e5, e6⟩
        · exact pk _ _ e6 ρ F H z .refl rp (f1 w e5)
        · rw [f2 e5]; exact pk.now rp e6 .non
      | @cons xd xv _ _ rxd r2 =>
        cases ru1 with
        | @cons _ ux _ _ rux ru2 =>
          cases r2 with
          | nil =>
            cases ru2
            obtain ⟨t, hc, hk, e4⟩ := keyK_some m (show getK l kd h k xd = some O from e3)
            refine di_get2 hw hu I m hc hk rk ruk rux fun z w' s' I' rz f1 f2 => ⟨z, H, I', rz, ?_⟩
            rcases lookK_some e4 with ⟨w, e5, e6⟩ | ⟨e5, e6⟩
            · exact pk _ _ e6 ρ F H z .refl rp (f1 w e5)
            · rw [f2 e5]; exact pk _ _ e6 ρ F H xv .refl rp rxd
          | cons _ _ => cases e3
/-! ### stores -/
def RdSt (T : Tab) (o : Op3) : TSet := fun x y z H Q => ∃ (O : Out) (ρ : List Addr) (F : Fz) (d e f : DV) (h : CH) (k : CH → A),
  Rep T ρ F H h ∧ RV T ρ F H d x ∧ RV T ρ F H e y ∧ RV T ρ F H f z ∧ o d e f h k = some O ∧ ∀ h', k h' = some O → ∀ H', Le ρ F H ρ F H' → Rep T ρ F H' h' → Q H'
theorem lineD_some {l : List (DV × DV)} {z : A} (e : lineD l z = some O) : l.length ≤ mx ∧ z = some O := by
  unfold lineD at e
  rw [lenK_eq, Nat.zero_add] at e
  obtain ⟨b, e1⟩ := bsel_some e
  exact ⟨Nat.le_of_ble_eq_true b, e1⟩
theorem setAt_some {l : List DV} {i : Int} {v : DV} {k : List DV → A} (e : setAt l i v k = some O) : ∃ j, ixN l.length i = some j ∧ j < l.length ∧ k (l.set j v) = some O := by
  cases i with
  | ofNat n =>
    obtain ⟨hj, e2⟩ := putK_some (show putK l n v k = some O from e)
    refine ⟨n, ?_, hj, e2⟩
    unfold ixN
    show (if (0 : Int) ≤ Int.ofNat n then (if Int.ofNat n < (l.length : Int) then some (Int.ofNat n).toNat else none) else _) = _
    rw [if_pos (show (0 : Int) ≤ Int.ofNat n from Int.natCast_nonneg n), if_pos (show Int.ofNat n < (l.length : Int) from Int.ofNat_lt.mpr hj)]
    rfl
  | negSucc m =>
    have e' : lenK l 0 (fun n => bsel (Nat.ble (Nat.succ m) n) (putK l (Nat.sub n (Nat.succ m)) v k) none) = some O := e
    rw [lenK_eq, Nat.zero_add] at e'
    obtain ⟨e1, e2⟩ := bsel_some e'
    obtain ⟨hj, e3⟩ := putK_some e2
    have := Nat.le_of_ble_eq_true e1
    refine ⟨_, ?_, hj, e3⟩
    unfold ixN
    rw [if_neg (by omega), if_pos (by omega)]
    congr 1
    show (Int.negSucc m + l.length).toNat = l.length - (m + 1)
    omega
theorem RVl.set {l : List DV} {vs : List V} {d : DV} {v : V} (r : RVl T ρ F H l vs) (rd : RV T ρ F H d v) : ∀ j, RVl T ρ F H (l.set j d) (vs.set j v) := by
  induction r with
  | nil => intro j; exact .nil
  | cons a t ih => intro j; cases j with
    | zero => exact .cons rd t
    | succ j => exact .cons a (ih j)
theorem set_oSet (hw : T.w = X.w) (hu : X.A.units + 10 < cLine) : PSet X (RdSt T oSet) := by
  intro pins st σ H o i v ov iv u Q I ro ri rv hq
  obtain ⟨O, ρ, F, d, e, f, h, k, rp, rd, re, rf, eq, pk⟩ := hq
  obtain ⟨j, rfl, e1⟩ := dCell_some eq
  obtain ⟨mo, em, e2⟩ := nthK_some e1
  cases mo with
  | lst n l =>
    obtain ⟨ii, rfl, e3⟩ := dInt_some (show dInt e _ = some O from e2)
    obtain ⟨jj, hj, hlt, e4⟩ := setAt_some e3
    obtain ⟨hi, e5⟩ := putK_some (show putK h j (.lst n (l.set jj f)) k = some O from e4)
    obtain ⟨a, vs, ev, ea, e7, q, b1, b2⟩ := cell_at rp em rd
    obtain ⟨rp2, le⟩ := cell_put (l' := l.set jj f) (n' := n) (vs' := vs.set jj v) rp em ea (by rw [List.length_set]; exact b1) b2 (q.set rf jj)
    exact set_list pins st σ H o i v ov iv u Q I ro ri rv ⟨a, vs, ii, jj, ev, re.int_inv, e7, by rw [← q.len]; exact hj, pk _ e5 _ le rp2⟩
  | dic b l =>
    cases b with
    | true => cases e2
    | false =>
      obtain ⟨a, ea, _, m⟩ := rp.cells j _ em
      obtain ⟨a', ev, ea'⟩ := rd.ref_inv
      rw [ea] at ea'
      cases ea'
      subst ev
      obtain rfl : ov = Value.ref a := ro
      obtain ⟨t, hc, hk, e3⟩ := keyK_some m (show keyK l e _ = some O from e2)
      rw [storeK_eq] at e3
      obtain ⟨hl, e4⟩ := lineD_some e3
      obtain ⟨_, e5⟩ := putK_some e4
      rw [List.reverse_nil, List.nil_append] at hl e5
      exact di_set hw hu I rp em ea hl m hc hk re ri rf rv fun ob s' I' rp2 le => ⟨_, I', pk _ e5 _ le rp2⟩
  | _ => cases e2
section
variable {oe ie : Expr} {pos : Pos} {co ci : Code} {st : Op3}
theorem sndg_sub (ho : Snd T X W oe co) (hi : Snd T X W ie ci) (hs : PSet X (RdSt T st))
    (ha : ∀ v, assign (.Subscript oe ie pos) X.env v = (do
      let ov ← holding [v] (eval oe X.env)
      let iv ← holding [v, ov] (eval ie X.env)
      standAt pos
      holding [v, ov, iv] (setItem ov iv v)
      release [v, ov, iv] [])) : SndG T X W (.Subscript oe ie pos) (gSubC co ci st) := by
  refine PG.imp (pg_sub ho hi hs ha) fun v σ H Q hq => ?_
  obtain ⟨O, ρ, F, d, s, h, n, x, rp, rs, rv, e, pn, px⟩ := hq
  refine RdE.seq rp rs e (px s σ ρ F H .refl rs) fun o h1 ρ1 F1 H1 o' e1 l1 r1 ro rs1 px1 => ?_
  refine RdE.seq r1 rs1 e1 px1 fun i h2 ρ2 F2 H2 i' e2 l2 r2 ri rs2 px2 => ?_
  exact ⟨O, ρ2, F2, o, i, d, h2, _, r2, ro.le l2, ri, rv.le (l1.trans l2), e2, fun h3 e3 H3 l3 r3 => pn s h3 e3 ρ2 F2 H3 σ ((l1.trans l2).trans l3) r3 (rs2.le l3)⟩
noncomputable def sAugS (co ci ce : Code) (g o : Op2) (st : Op3) : SCode := fun s h n ks => co s h (fun a h => ci s h (fun i h => g a i h fun v h => ce s h (fun w h => o v w h fun z h => st a i z h fun h => n s h) (ks.xc s)) (ks.xc s)) (ks.xc s)
theorem snds_augS {e : Expr} {ce : Code} {g o : Op2} {op : Operator} {tpos : Pos} (ho : Snd T X W oe co) (hi : Snd T X W ie ci) (hg : PGet X (RdO T g)) (he : Snd T X W e ce) (hp : PIp X op (RdO T o)) (hs : PSet X (RdSt T st))
    (ha : ∀ ov iv new, augStore ie ov iv new = (do holding [new, ov, iv] (setItem ov iv new); release [new, ov, iv] []; pure .next)) : SndS T X W (.AugAssign (.Subscript oe ie tpos) op e pos) (sAugS co ci ce g o st) := by
  refine PS.imp (ps_augS ho hi hg he hp hs ha) fun D σ H hq => ?_
  obtain ⟨O, ρ, F, s, h, n, ks, rp, rs, e, p⟩ := hq
  refine RdE.sq rp rs p e fun a h1 ρ1 F1 H1 a' e1 r1 ra rs1 p1 => ?_
  refine ⟨O, ρ1, F1, s, h1, _, _, r1, rs1, e1, fun i h2 e2 ρ2 F2 H2 i' l2 r2 ri => ?_, p1.px rs1⟩
  refine ⟨O, ρ2, F2, a, i, h2, _, r2, ra.le l2, ri, e2, fun v h3 e3 ρ3 F3 H3 v' l3 r3 rv => ?_⟩
  have l23 := l2.trans l3
  refine ⟨O, ρ3, F3, s, h3, _, _, r3, rs1.le l23, e3, fun w h4 e4 ρ4 F4 H4 w' l4 r4 rw' => ?_, (p1.le l23).px (rs1.le l23)⟩
  refine ⟨O, ρ4, F4, v, w, h4, _, r4, rv.le l4, rw', e4, fun z h5 e5 ρ5 F5 H5 z' l5 r5 rz => ?_⟩
  have l35 := l4.trans l5
  have l25 := l3.trans l35
  refine ⟨O, ρ5, F5, a, i, z, h5, _, r5, ra.le (l2.trans l25), ri.le l25, rz, e5, fun h6 e6 H6 l6 r6 => ?_⟩
  exact p1.nx s h6 e6 ρ5 F5 H6 σ ((l2.trans l25).trans l6) r6 (rs1.le ((l2.trans l25).trans l6))
end
/-! ### {} -/
theorem pe_dic0 {pos : Pos} : PE X (.Dict [] [] pos) (fun _ H Q => ∀ p ob, H p = none → ob = { cls := .type "dict", data := .dict #[] } → (p == sysModules) = false → Q (.ref p) (upd H p (obE p ob))) := ⟨fun pins s σ H Q I h =>
  wpAny_Dict_empty ⟨.ref s.heap.objs.size, _, I.laid (a := s.heap.objs.size) (t' := s.toks) (fun _ _ q => Heap.get?_push_of_some _ q) (Nat.le_refl _) (obE_ok (Heap.get?_push_size _ rfl)), rfl, h _ _ (I.hok.fresh (Nat.le_refl _)) rfl (beq_eq_false_iff_ne.mpr (Nat.ne_of_gt I.big))⟩⟩
theorem DOk.empty {p : Addr} {ob : Obj} (eo : ob = { cls := .type "dict", data := .dict #[] }) (hs : (p == sysModules) = false) (e : H p = some (obE p ob)) : DOk T ρ F H p [] :=
  ⟨hs, Nat.zero_le _, List.nodup_nil, .inr fun _ h => (nomatch h), ob, #[], 0, e, by rw [eo]; exact ⟨rfl, rfl, rfl⟩, by rw [eo], .nil⟩
theorem snd_dic0 {pos : Pos} : Snd T X W (.Dict [] [] pos) eDic0 := by
  refine PE.imp pe_dic0 fun σ H Q hq p ob hp eo hs => ?_
  obtain ⟨O, ρ, F, s, h, k, x, rp, rs, e, pk, px⟩ := hq
  have e1 : (appK h [.dic false []] fun h' => lenK h 0 fun n => k (.ref n) h') = some O := e
  rw [appK_eq, lenK_eq, Nat.zero_add] at e1
  exact pk _ _ e1 (ρ ++ [p]) F _ _ (Le.cell hp) (rp.cell hp (fun _ _ z => by cases z) ⟨fun z => (nomatch z), DOk.empty eo hs upd_same⟩) (.ref (by rw [rp.len, List.getElem?_append_right (Nat.le_refl _), Nat.sub_self]; rfl))
end SW
end
section
/-! list(d), list(d.values()), dict(pairs). -/
namespace SW
open PySem PySem.Spec PyProof.Rows L2 SlX
variable {T : Tab} {O : Out} {ρ ρ1 ρ' : List Addr} {F F1 F' : Fz} {H H1 H' : Hp} {h h1 : CH} {s : SW.St} {σ : L2.St} {k : K} {x : KX} {Q : VK} {W : WX} {X : Cx} {E : XK}
theorem ents_keys : ∀ {l : List (DV × DV)} {es : List DictEntry}, Paired (DEnt T ρ F H) l es → ∃ vs, Vals vs (es.map (·.key)) ∧ RVl T ρ F H (keysD l) vs
  | _, _, .nil => ⟨[], .nil, .nil⟩
  | _, _, .cons d t => by
    obtain ⟨vs, h1, h2⟩ := ents_keys t
    obtain ⟨v, rv, ri⟩ := d.key
    exact ⟨v :: vs, .cons rv h1, .cons (.imm ri) h2⟩
theorem ents_vals : ∀ {l : List (DV × DV)} {es : List DictEntry}, Paired (DEnt T ρ F H) l es → ∃ vs, Vals vs (es.map (·.val)) ∧ RVl T ρ F H (valsD l) vs
  | _, _, .nil => ⟨[], .nil, .nil⟩
  | _, _, .cons d t => by
    obtain ⟨vs, h1, h2⟩ := ents_vals t
    obtain ⟨v, rv, ri⟩ := d.val
    exact ⟨v :: vs, .cons rv h1, .cons ri h2⟩
theorem items_map {es : Array DictEntry} {acc : Array Value} {sel : DictEntry → Value} (h : ItemsOf (fun i v => ∃ hi : i < es.size, v = sel es[i]) acc es.size) : acc.toList = es.toList.map sel := by
  have hl : acc.toList.length = es.toList.length := by rw [Array.length_toList, Array.length_toList]; exact h.1
  apply List.ext_getElem?
  intro j
  rw [List.getElem?_map]
  cases hj : acc.toList[j]? with
  | none =>
    have h1 := List.getElem?_eq_none_iff.mp hj
    rw [List.getElem?_eq_none (by omega)]
    rfl
  | some v =>
    obtain ⟨hi, hv⟩ := h.2 j v (by rw [← Array.getElem?_toList]; exact hj)
    rw [Array.getElem?_toList, Array.getElem?_eq_getElem hi, hv]
    rfl
theorem DOk.dr {a : Addr} {l : List (DV × DV)} (m : DOk T ρ F H a l) : ∃ ob es ep, DRaw a ob es ep ∧ H a = some (obE a ob) ∧ Paired (DEnt T ρ F H) l es.toList := by
  obtain ⟨ob, es, ep, h1, h2, h3, h4⟩ := m.obj
  exact ⟨ob, es, ep, ⟨h2, h3, m.sm⟩, h1, h4⟩
theorem size_ents {l : List (DV × DV)} {es : Array DictEntry} (p : Paired (DEnt T ρ F H) l es.toList) : es.size = l.length := by
  rw [← Array.length_toList]; exact (Paired.length p).symm
section
variable {pins : List (Addr × Obj)} {sh : Shared}
/-- a new list from what a walk gathered -/
theorem new_list {vs : List V} {acc : Array Value} {c tk : Nat} {h' : Heap} (I : Inv X pins σ H sh) (hk : ∀ b o, sh.heap.get? b = some o → h'.get? b = some o) (e : h'.get? sh.heap.objs.size = some { cls := .type "list", dict := none, data := .seq acc c, slots := #[] })
    (hv : Vals vs acc.toList) (hz : vs.length ≤ sizeLine) (q : ∀ p, H p = none → Q (.ref p) (upd H p (.lst vs))) : EP X pins σ Q (.ref sh.heap.objs.size) { sh with heap := h', toks := tk } :=
  ⟨.ref sh.heap.objs.size, upd H sh.heap.objs.size (.lst vs), I.laid (t' := tk) hk (Nat.le_refl _) (show ObjOk X.prog X.w _ _ _ (.lst vs) from ⟨hz, acc.toList, c, hv, by rw [Array.toArray_toList]; exact e⟩), rfl, q _ (I.hok.fresh (Nat.le_refl _))⟩
end
theorem keysD_len (l : List (DV × DV)) : (keysD l).length = l.length := by rw [keysD_eq, List.length_map]
theorem valsD_len (l : List (DV × DV)) : (valsD l).length = l.length := by rw [valsD_eq, List.length_map]
theorem cb_listD (hc : X.calm = true) (mk : Bool) : CallR X (.type "list") (RdB T (oListD mk)) := by
  intro pins st σ H xs us Q I r hq
  obtain ⟨O, ρ, F, ds, h, k, rp, rds, eq, pk⟩ := hq
  obtain ⟨d, rfl, e0⟩ := arg1_some eq
  obtain ⟨v, rfl, rd⟩ := rds.one
  rcases dicK_some e0 rp rd with e1 | ⟨i, b, l, a, ed, em, ea, ev, m, e1⟩
  · exact cb_list mk pins st σ H [v] us Q I r ⟨O, ρ, F, [d], h, k, rp, rds, e1, pk⟩
  · subst ed ev
    obtain ⟨u, rfl, rx⟩ := r.one
    obtain rfl : u = Value.ref a := rx
    obtain ⟨hl, e2⟩ := lineD_some e1
    obtain ⟨ob, es, ep, dr, e3, ent⟩ := m.dr
    obtain ⟨vs, hv, rv⟩ := ents_keys ent
    have hs := size_ents ent
    refine PySem.W.kdl_call (kdl_raw dr.sm dr.ex dr.da) (I.ok.hd hc) (dic_at I e3) (by rw [hs]; exact line_of hl) fun h' tk acc c hk e it => ?_
    refine new_list I hk e ?_ (by rw [← rv.len, keysD_len]; exact line_of hl) (post_mk rp (by rw [keysD_len]; exact hl) rv e2 pk)
    rw [items_map (sel := (·.key)) ⟨it.1, fun j v hv => by
      obtain ⟨en, h1, h2⟩ := it.2 j v hv
      obtain ⟨hi, e4⟩ := Array.getElem?_eq_some_iff.mp h1
      exact ⟨hi, by rw [h2, e4]⟩⟩]
    exact hv
/-- list(d.values()) -/
theorem snd_lvals {mk : Bool} {e : Expr} {c : Code} {p pos apos cpos : Pos} (hc : X.calm = true) (hg : Gl X "list") (hm : X.mg "list" = none) (he : Snd T X W e c) (hbase : attributeBase e "values" X.env (eval e X.env) = eval e X.env) (hline : (apos.endLine == cpos.line) = true)
    (na : starEach [.Call (.Attribute e "values" apos) [] [] cpos] X.env = (false, eval (.Call (.Attribute e "values" apos) [] [] cpos) X.env) :: starEach [] X.env) :
    Snd T X W (.Call (.Name "list" p) [.Call (.Attribute e "values" apos) [] [] cpos] [] pos) (eLVals mk c) := by
  refine PE.imp (t := fun σ H Q => RdE T W c σ H fun v H1 => ∃ a ob es ep vs, v = .ref a ∧ DRaw a ob es ep ∧ H1 a = some (obE a ob) ∧ Vals vs (es.toList.map (·.val)) ∧ es.size ≤ sizeLine ∧ ∀ p, H1 p = none → Q (.ref p) (upd H1 p (.lst vs))) ⟨fun pins s σ H Q I h => ?_⟩ fun σ H Q hq => ?_
  · refine Call_ (ld_blt I hg hm boot_list (PyProof.Rows.callWith_type1 (args_cons ?_ na) na))
    refine wpAny_Call_method (T := "dict") (id := "dict.values") hbase rfl hline PySem.F.plainAttrs_dict PySem.F.slot_dict_values PySem.F.type_dict_values (thn (he.run pins s σ H _ I h) fun u s1 ⟨x, H1, I1, rx, a, ob, es, ep, vs, ex, d, e1, hv, hz, q⟩ => ?_)
    subst ex
    obtain rfl : u = Value.ref a := rx
    refine ⟨(d.noDict I1 e1).1, (d.noDict I1 e1).2, ?_⟩
    have I2 : Inv X pins σ H1 { s1 with heap := s1.heap.push { cls := .type "dict_values", data := .fields #[.ref a] } } := I1.kept (t' := s1.toks) fun b ob q => Heap.get?_push_of_some _ q
    have hlen : vs.length = es.size := by rw [hv.length, List.length_map, Array.length_toList]
    refine method_meetsIn PySem.F.slot_dict_values PySem.F.entry_dict_values rfl (PySem.evalArgs_none ⟨rfl, (d.noDict I1 e1).1, PySem.F.args_dict_values_1 _, _, meets_dict_values_raw a d.sm, ⟨_, _, d.raw I1 e1⟩, args_nil ?_⟩)
    refine PySem.W.kdl_call (PySem.KdlSrc.rawValues (r := s1.heap.objs.size) (d := a) (es := es) (ep := ep)) (I1.ok.hd hc) ⟨⟨_, Heap.get?_push_size _ rfl, rfl, rfl⟩, d.raw I2 e1⟩ hz fun h' tk acc c hk e it => ?_
    exact new_list I2 hk e (by rw [items_map (sel := (·.val)) it]; exact hv) (by rw [hlen]; exact hz) q
  · obtain ⟨O, ρ, F, s, h, k, x, rp, rs, e, pk, px⟩ := hq
    refine RdE.seq rp rs e px fun u h1 ρ1 F1 H1 u' e1 l1 r1 ru rs1 px1 => ?_
    obtain ⟨i, rfl, e2⟩ := dCell_some e1
    obtain ⟨mo, em, e3⟩ := nthK_some e2
    obtain ⟨b, l, rfl, e4⟩ := mDic_some e3
    obtain ⟨a, ea, _, m⟩ := r1.cells i _ em
    obtain ⟨a', ev, ea'⟩ := ru.ref_inv
    rw [ea] at ea'
    cases ea'
    obtain ⟨ob, es, ep, dr, e5, ent⟩ := m.dr
    obtain ⟨vs, hv, rv⟩ := ents_vals ent
    exact ⟨a, ob, es, ep, vs, ev, dr, e5, hv, by rw [size_ents ent]; exact line_of m.len, post_mk r1 (by rw [valsD_len]; exact m.len) rv e4 (pk.le l1)⟩
/-! ### dict(pairs) -/
noncomputable section
def twoK (l : List DV) (f : DV → DV → A) : A := @List.rec DV (fun _ => A) none (fun a r _ => @List.rec DV (fun _ => A) none (fun b r2 _ => @List.rec DV (fun _ => A) (f a b) (fun _ _ _ => none) r2) r) l
def pairsK (items : List DV) (acc : List (DV × DV)) (k : List (DV × DV) → A) : A := @List.rec DV (fun _ => List (DV × DV) → A) (fun acc => k acc) (fun d _ ih acc => dTup d fun l => twoK l fun kd v => keyK acc kd (storeK acc kd v [] fun acc => ih acc)) items acc
def newDic (l : List (DV × DV)) (h : CH) (k : K) : A := lineD l (appK h [.dic false l] fun h' => lenK h 0 fun n => k (.ref n) h')
def oDictP : OpL := fun ds h k => arg1 ds fun a => dList a h fun l => pairsK l [] fun acc => newDic acc h k
end
theorem twoK_some {l : List DV} {f : DV → DV → A} (e : twoK l f = some O) : ∃ a b, l = [a, b] ∧ f a b = some O := by
  cases l with
  | nil => cases e
  | cons a l => cases l with
    | nil => cases e
    | cons b l => cases l with
      | nil => exact ⟨a, b, rfl, e⟩
      | cons _ _ => cases e
theorem KC.one {t t' : Bool} {d : DV} (h : KC t d) (h' : KC t' d) : t = t' := by
  cases t <;> cases t' <;> first | rfl | skip
  · have := kSc_tup (show kSc d = true from h); rw [h'.1] at this; cases this
  · have := kSc_tup (show kSc d = true from h'); rw [h.1] at this; cases this
theorem keyK_cls {t : Bool} {l : List (DV × DV)} {d : DV} {z : A} (c : ∀ p ∈ l, KC t p.1) (ne : l ≠ []) (e : keyK l d z = some O) : KC t d ∧ z = some O := by
  cases l with
  | nil => exact (ne rfl).elim
  | cons p l =>
    rcases bsel2_some (show bsel (isTup d) (bsel (kdep d 8) (bsel (isTup p.1) z none) none) (bsel (isSc d) (bsel (isTup p.1) none z) none) = some O from e) with ⟨b, e1⟩ | ⟨b, e1⟩
    · obtain ⟨b2, e2⟩ := bsel_some e1
      obtain ⟨b3, e3⟩ := bsel_some e2
      rw [isTup_eq] at b3 b
      cases t with
      | true => exact ⟨⟨b, b2⟩, e3⟩
      | false => rw [kSc_tup (c p List.mem_cons_self)] at b3; cases b3
    · obtain ⟨b2, e2⟩ := bsel_some e1
      obtain ⟨b3, e3⟩ := bsel2_no e2
      rw [isTup_eq] at b3
      cases t with
      | true => rw [(c p List.mem_cons_self).1] at b3; cases b3
      | false => exact ⟨(isSc_eq d).symm.trans b2, e3⟩
theorem keyK_nil {d : DV} {z : A} (e : keyK [] d z = some O) : ∃ t, KC t d ∧ z = some O := by
  rcases bsel2_some (show bsel (isTup d) (bsel (kdep d 8) z none) (bsel (isSc d) z none) = some O from e) with ⟨b, e1⟩ | ⟨b, e1⟩
  · obtain ⟨b2, e2⟩ := bsel_some e1
    exact ⟨true, ⟨(isTup_eq d).symm.trans b, b2⟩, e2⟩
  · obtain ⟨b2, e2⟩ := bsel_some e1
    exact ⟨false, (isSc_eq d).symm.trans b2, e2⟩
theorem nil_cls {t : Bool} : ∀ p ∈ ([] : List (DV × DV)), KC t p.1 := fun _ h => (nomatch h)
def pairD (p : DV × DV) : DV := .tup [p.1, p.2]
noncomputable def foldP (acc prs : List (DV × DV)) : List (DV × DV) := prs.foldl (fun acc p => storeL acc p.1 p.2) acc
theorem storeL_ne (l : List (DV × DV)) (d x : DV) : storeL l d x ≠ [] := by
  cases l with
  | nil => intro z; cases z
  | cons p l => rw [storeL_cons]; split <;> (intro z; cases z)
theorem storeL_cls {t : Bool} {l : List (DV × DV)} {d x : DV} (c : ∀ p ∈ l, KC t p.1) (hd : KC t d) : ∀ p ∈ storeL l d x, KC t p.1 := fun p hp => by
  rcases storeL_mem hp with ⟨q, hq, e⟩ | e
  · rw [e]; exact c q hq
  · rw [e]; exact hd
theorem pairsK_some1 {t : Bool} : ∀ {items : List DV} {acc : List (DV × DV)} {k : List (DV × DV) → A}, (∀ p ∈ acc, KC t p.1) → acc ≠ [] → pairsK items acc k = some O →
    ∃ prs, items = prs.map pairD ∧ (∀ p ∈ prs, KC t p.1) ∧ k (foldP acc prs) = some O
  | [], acc, k, c, ne, e => ⟨[], rfl, fun _ h => (nomatch h), e⟩
  | d :: items, acc, k, c, ne, e => by
    obtain ⟨l, rfl, e1⟩ := dTup_some (show dTup d _ = some O from e)
    obtain ⟨kd, v, rfl, e2⟩ := twoK_some e1
    obtain ⟨hk, e3⟩ := keyK_cls c ne e2
    rw [storeK_eq, List.reverse_nil, List.nil_append] at e3
    obtain ⟨prs, rfl, h2, h3⟩ := pairsK_some1 (storeL_cls c hk) (storeL_ne _ _ _) (show pairsK items (storeL acc kd v) k = some O from e3)
    exact ⟨(kd, v) :: prs, rfl, fun p hp => (List.mem_cons.mp hp).elim (fun e => by rw [e]; exact hk) (h2 p), h3⟩
theorem pairsK_some {items : List DV} {k : List (DV × DV) → A} (e : pairsK items [] k = some O) : ∃ t prs, items = prs.map pairD ∧ (∀ p ∈ prs, KC t p.1) ∧ k (foldP [] prs) = some O := by
  cases items with
  | nil => exact ⟨true, [], rfl, fun _ h => (nomatch h), e⟩
  | cons d items =>
    obtain ⟨l, rfl, e1⟩ := dTup_some (show dTup d _ = some O from e)
    obtain ⟨kd, v, rfl, e2⟩ := twoK_some e1
    obtain ⟨t, hk, e3⟩ := keyK_nil e2
    rw [storeK_eq, List.reverse_nil, List.nil_append] at e3
    obtain ⟨prs, rfl, h2, h3⟩ := pairsK_some1 (t := t) (storeL_cls nil_cls hk) (storeL_ne _ _ _) (show pairsK items (storeL [] kd v) k = some O from e3)
    exact ⟨t, (kd, v) :: prs, rfl, fun p hp => (List.mem_cons.mp hp).elim (fun e => by rw [e]; exact hk) (h2 p), h3⟩
theorem foldP_cls {t : Bool} : ∀ {prs acc : List (DV × DV)}, (∀ p ∈ acc, KC t p.1) → (∀ p ∈ prs, KC t p.1) → ∀ p ∈ foldP acc prs, KC t p.1
  | [], _, c, _ => c
  | p :: prs, acc, c, cp => foldP_cls (prs := prs) (storeL_cls c (cp p List.mem_cons_self)) fun q hq => cp q (List.mem_cons_of_mem _ hq)
theorem foldP_nodup {t : Bool} : ∀ {prs acc : List (DV × DV)}, (∀ p ∈ acc, KC t p.1) → (∀ p ∈ prs, KC t p.1) → (acc.map fun p => toNK p.1).Nodup → ((foldP acc prs).map fun p => toNK p.1).Nodup
  | [], _, _, _, nd => nd
  | p :: prs, acc, c, cp, nd => foldP_nodup (prs := prs) (storeL_cls c (cp p List.mem_cons_self)) (fun q hq => cp q (List.mem_cons_of_mem _ hq)) (storeL_nodup (fun q hq => (c q hq).eq (cp p List.mem_cons_self)) nd)
theorem foldP_H : ∀ {prs acc : List (DV × DV)} {xs ps : List (NestedKey × Addr × Value)}, (∀ p ∈ acc, KC true p.1) → (∀ p ∈ prs, KC true p.1) → (acc.map fun p => toNK p.1).Nodup →
    Paired (fun p q => q.1 = toNK p.1 ∧ RT T ρ F H p q.2) acc xs → Paired (fun p q => q.1 = toNK p.1 ∧ RT T ρ F H p q.2) prs ps → Paired (fun p q => q.1 = toNK p.1 ∧ RT T ρ F H p q.2) (foldP acc prs) (storedAllH xs ps)
  | [], _, _, _, _, _, _, r, .nil => r
  | p :: prs, acc, xs, q :: ps, c, cp, nd, r, .cons z t => by
    have hk := cp p List.mem_cons_self
    refine foldP_H (prs := prs) (xs := storedH xs q.1 q.2.1 q.2.2) (storeL_cls c hk) (fun q hq => cp q (List.mem_cons_of_mem _ hq)) (storeL_nodup (fun q hq => (c q hq).eq hk) nd) ?_ t
    have := (colH r c hk).put (x := p.2) (g := fun b => (b.1, q.2.2)) (nb := q.2) (fun y b w => ⟨w.1, z.2.2⟩) z.2 (by rw [pair_keys (key := toNK) r]; exact nd)
    rw [storedH_eq, z.1]
    exact this
theorem foldP_S : ∀ {prs acc : List (DV × DV)} {xs ps : List (Key × Value)}, (∀ p ∈ acc, KC false p.1) → (∀ p ∈ prs, KC false p.1) → (acc.map fun p => toNK p.1).Nodup →
    Paired (fun p q => q.1 = kOf p.1 ∧ RS T ρ F H p q.2) acc xs → Paired (fun p q => q.1 = kOf p.1 ∧ RS T ρ F H p q.2) prs ps → Paired (fun p q => q.1 = kOf p.1 ∧ RS T ρ F H p q.2) (foldP acc prs) (merged xs ps)
  | [], _, _, _, _, _, _, r, .nil => r
  | p :: prs, acc, xs, q :: ps, c, cp, nd, r, .cons z t => by
    have hk := cp p List.mem_cons_self
    refine foldP_S (prs := prs) (xs := stored xs q.1 q.2) (storeL_cls c hk) (fun q hq => cp q (List.mem_cons_of_mem _ hq)) (storeL_nodup (fun q hq => (c q hq).eq hk) nd) ?_ t
    have := (colS r c hk).put (x := p.2) (g := fun _ => q.2) (nb := q.2) (fun y b w => z.2) z.2 (by rw [pair_keys (key := kOf) r]; exact nodup_k c nd)
    unfold stored
    rw [z.1]
    exact this
section
variable {pins : List (Addr × Obj)} {sh : Shared}
theorem prs_heap (I : Inv X pins σ H sh) : ∀ {prs : List (DV × DV)} {vs : List V}, RVl T ρ F H (prs.map pairD) vs →
    ∃ (Ts : List Addr) (us : List (Value × Value)), vs = Ts.map V.ref ∧ Paired (fun p u => ∃ a b, RelV a u.1 ∧ RelV b u.2 ∧ RVI T F H p.1 a ∧ RVI T F H p.2 b) prs us ∧ Paired (fun t u => sh.heap.IsTuple t #[u.1, u.2]) Ts us
  | [], _, .nil => ⟨[], [], rfl, .nil, .nil⟩
  | p :: prs, v :: vs, .cons r t => by
    obtain ⟨Ts, us, h1, h2, h3⟩ := prs_heap I t
    obtain ⟨a, xs, ev, f, e1, q, n⟩ := (show RV T ρ F H (.tup [p.1, p.2]) v from r).tup_inv
    cases q with
    | cons ra q => cases q with
      | cons rb q =>
        cases q
        obtain ⟨its, rv, pt, hz⟩ := I.tuple (.inl (.inl e1))
        obtain ⟨u, w, ei, ru, rw'⟩ := vals2 rv
        subst ei ev
        exact ⟨a :: Ts, (u, w) :: us, by rw [List.map_cons, h1], .cons ⟨_, _, ru, rw', ra, rb⟩ h2, .cons pt h3⟩
theorem paired_at {α β : Type} {R : α → β → Prop} : ∀ {l : List α} {m : List β} {j : Nat} {b : β}, Paired R l m → m[j]? = some b → ∃ a, l[j]? = some a ∧ R a b
  | _, _, 0, _, .cons r _, e => by cases e; exact ⟨_, rfl, r⟩
  | _, _, j + 1, _, .cons _ t, e => by
    obtain ⟨a, h1, h2⟩ := paired_at (j := j) t (by simpa using e)
    exact ⟨a, by simpa using h1, h2⟩
theorem paired_to {α β : Type} {R : α → β → Prop} : ∀ {l : List α} {m : List β} {j : Nat} {a : α}, Paired R l m → l[j]? = some a → ∃ b, m[j]? = some b ∧ R a b
  | _, _, 0, _, .cons r _, e => by cases e; exact ⟨_, rfl, r⟩
  | _, _, j + 1, _, .cons _ t, e => by
    obtain ⟨a, h1, h2⟩ := paired_to (j := j) t (by simpa using e)
    exact ⟨a, by simpa using h1, h2⟩
theorem foldP_key {us : List (Value × Value)} : ∀ {prs : List (DV × DV)} {acc : List (DV × DV)}, (∀ p ∈ acc, ∃ v, RVI T F H p.1 v) → (∀ p ∈ prs, ∃ v, RVI T F H p.1 v) → ∀ p ∈ foldP acc prs, ∃ v, RVI T F H p.1 v
  | [], _, c, _ => c
  | p :: prs, acc, c, cp => foldP_key (us := us) (prs := prs) (fun q hq => by
      rcases storeL_mem hq with ⟨r, hr, e⟩ | e
      · rw [e]; exact c r hr
      · rw [e]; exact cp p List.mem_cons_self) fun q hq => cp q (List.mem_cons_of_mem _ hq)
theorem prs_key {prs : List (DV × DV)} {us : List (Value × Value)} (pu : Paired (fun p u => ∃ a b, RelV a u.1 ∧ RelV b u.2 ∧ RVI T F H p.1 a ∧ RVI T F H p.2 b) prs us) : ∀ p ∈ prs, ∃ v, RVI T F H p.1 v := fun p hp => by
  obtain ⟨j, hj⟩ := List.mem_iff_getElem?.mp hp
  obtain ⟨_, _, a, _, _, _, ra, _⟩ := paired_to pu hj
  exact ⟨a, ra⟩
theorem pair_items {Ts : List Addr} {us : List (Value × Value)} (p : Paired (fun t u => sh.heap.IsTuple t #[u.1, u.2]) Ts us) : PairItems sh.heap (Ts.map Value.ref).toArray (fun j => Ts.getD j 0) us := by
  refine ⟨by rw [List.size_toArray, List.length_map]; exact Paired.length p, fun j k v e => ?_⟩
  obtain ⟨t, h1, h2⟩ := paired_at p e
  have e2 : Ts.getD j 0 = t := by rw [List.getD_eq_getElem?_getD, h1]; rfl
  refine ⟨?_, .inl ?_⟩
  · show (Ts.map Value.ref).toArray[j]? = some (Value.ref (Ts.getD j 0))
    rw [e2]; simp [h1]
  · show sh.heap.IsTuple (Ts.getD j 0) #[k, v]
    rw [e2]; exact h2
theorem hkeys : ∀ {prs : List (DV × DV)} {us : List (Value × Value)}, Paired (fun p u => ∃ a b, RelV a u.1 ∧ RelV b u.2 ∧ RVI T F H p.1 a ∧ RVI T F H p.2 b) prs us → (∀ p ∈ prs, KC true p.1) →
    ∃ ps : List (NestedKey × Addr × Value), Paired (fun p q => q.1 = toNK p.1 ∧ RT T ρ F H p q.2) prs ps ∧ us = ps.map fun x => (Value.ref x.2.1, x.2.2)
  | _, _, .nil, _ => ⟨[], .nil, rfl⟩
  | p :: prs, u :: us, .cons r t, c => by
    obtain ⟨ps, h1, h2⟩ := hkeys t fun q hq => c q (List.mem_cons_of_mem _ hq)
    obtain ⟨a, b, ra, rb, ria, rib⟩ := r
    obtain ⟨ka, rfl, _⟩ := key_addr (c p List.mem_cons_self) (RV.imm (ρ := ρ) ria)
    obtain ⟨u1, u2⟩ := u
    obtain rfl : u1 = Value.ref ka := ra
    exact ⟨(toNK p.1, ka, u2) :: ps, .cons ⟨rfl, ria, b, rb, .imm rib⟩ h1, by rw [List.map_cons, h2]⟩
theorem skeys {P : Program} {w : World} : ∀ {prs : List (DV × DV)} {us : List (Value × Value)}, Paired (fun p u => ∃ a b, RelV a u.1 ∧ RelV b u.2 ∧ RVI T F H p.1 a ∧ RVI T F H p.2 b) prs us → (∀ p ∈ prs, KC false p.1) →
    ∃ ps : List (Key × Value), Paired (fun p q => q.1 = kOf p.1 ∧ RS T ρ F H p q.2) prs ps ∧ Paired (fun u q => (mixKind P w).is q.1 u.1 = true ∧ u.2 = q.2) us ps
  | _, _, .nil, _ => ⟨[], .nil, .nil⟩
  | p :: prs, u :: us, .cons r t, c => by
    obtain ⟨ps, h1, h2⟩ := skeys t fun q hq => c q (List.mem_cons_of_mem _ hq)
    obtain ⟨a, b, ra, rb, ria, rib⟩ := r
    exact ⟨(kOf p.1, u.2) :: ps, .cons ⟨rfl, b, rb, .imm rib⟩ h1, .cons ⟨(kOf_is (c p List.mem_cons_self) ria ra).1, rfl⟩ h2⟩
theorem plain_lst {a : Addr} {its : Array Value} (p : PlainL sh.heap a its) : PlainSeq "list" sh.heap a its := by
  obtain ⟨o, n, h1, h2, h3, h4⟩ := p
  exact ⟨o, n, h1, h2, h3, h4⟩
/-- a new dict -/
theorem post_dic {l : List (DV × DV)} {p : Addr} {ob : Obj} (rp : Rep T ρ F H h) (hp : H p = none) (m : DOk T (ρ ++ [p]) F (upd H p (obE p ob)) p l) (e : newDic l h k = some O) (pk : PostK T O ρ F H k Q) : Q (.ref p) (upd H p (obE p ob)) := by
  obtain ⟨_, e1⟩ := lineD_some e
  rw [appK_eq, lenK_eq, Nat.zero_add] at e1
  exact pk _ _ e1 (ρ ++ [p]) F _ _ (Le.cell hp) (rp.cell hp (fun _ _ z => by cases z) ⟨fun z => (nomatch z), m⟩) (.ref (by rw [rp.len, List.getElem?_append_right (Nat.le_refl _), Nat.sub_self]; rfl))
end
theorem cb_dictP (hw : T.w = X.w) (hu : X.A.units + 12 < cLine) (hc : X.calm = true) : CallR X (.type "dict") (RdB T oDictP) := by
  intro pins st σ H xs us Q I r hq
  obtain ⟨O, ρ, F, ds, h, k, rp, rds, eq, pk⟩ := hq
  obtain ⟨d, rfl, e0⟩ := arg1_some eq
  obtain ⟨v, rfl, rd⟩ := rds.one
  obtain ⟨a, items, vs, ev, e3, rv, hn, e1⟩ := dList_some e0 rp rd
  subst ev
  obtain ⟨u, rfl, rx⟩ := r.one
  obtain rfl : u = Value.ref a := rx
  obtain ⟨t, prs, rfl, cp, e2⟩ := pairsK_some e1
  obtain ⟨Ts, us, evs, pu, pt⟩ := prs_heap I rv
  subst evs
  have hl : us.length = prs.length := (Paired.length pu).symm
  have hsz : us.length ≤ sizeLine := by rw [hl]; rw [List.length_map] at hn; exact line_of hn
  obtain ⟨hlen, _⟩ := lineD_some (show lineD (foldP [] prs) _ = some O from e2)
  -- the new dict, told
  have fin : ∀ {h' : Heap} {tk : Nat} {ob : Obj} {es : Array DictEntry} {ep : Nat}, (∀ b o, st.heap.get? b = some o → h'.get? b = some o) → h'.get? st.heap.objs.size = some ob → ob.ExactDict → ob.data = .dict es ep → Paired (DEnt T ρ F H) (foldP [] prs) es.toList →
      EP X pins σ Q (.ref st.heap.objs.size) { st with heap := h', toks := tk } := fun {h' tk ob es ep} hk e3 e4 e5 e6 => by
    have hp := I.hok.fresh (Nat.le_refl st.heap.objs.size)
    refine ⟨.ref st.heap.objs.size, _, I.laid (t' := tk) hk (Nat.le_refl _) (obE_ok e3), rfl, post_dic rp hp ⟨beq_eq_false_iff_ne.mpr (Nat.ne_of_gt I.big), hlen, foldP_nodup nil_cls cp List.nodup_nil, ?_, ob, es, ep, upd_same, e4, e5, Paired.mapP e6 fun _ _ z => z.le (Le.cell hp)⟩ e2 pk⟩
    have := foldP_cls nil_cls cp
    cases t with
    | true => exact .inl this
    | false => exact .inr this
  have go : ∀ {ty : String} {fp : List Addr} {OK : Heap → Prop}, PairArg X.prog X.w ty a fp [] us.length (PairRel us) OK → OK st.heap → wpAny (model X.prog X.w) X.A (call (.type "dict") [.ref a]) (EP X pins σ Q) X.xe st := fun {ty fp OK} P ok => by
    cases t with
    | true =>
      obtain ⟨ps, h1, h2⟩ := hkeys (ρ := ρ) pu cp
      refine PySem.call_dict_pairsH (knd := nestedKind X.prog X.w) (ps := ps) P (I.ok.hd hc) (show X.A.in1.in1.units + 8 < cLine by rw [Around.in1_units, Around.in1_units]; omega) ok ⟨by rw [h2, List.length_map], fun i key v hr => ?_⟩ (fun h' hk x hx => ?_) hsz fun h' tk dd hk => ?_
      · have hr : us[i]? = some (key, v) := hr
        rw [h2, List.getElem?_map] at hr
        obtain ⟨⟨k1, b1, v1⟩, e3, e4⟩ := Option.map_eq_some_iff.mp hr
        cases e4
        exact ⟨k1, b1, e3, rfl⟩
      · obtain ⟨j, hj⟩ := List.mem_iff_getElem?.mp hx
        obtain ⟨p, hp, r1, ri, _⟩ := paired_at h1 hj
        have hkc := cp p (List.mem_of_getElem? hp)
        obtain ⟨n1, n2⟩ := isH I hkc ri
        rw [r1]
        exact ⟨NestedIs.at (fun b o vs n hb _ => hk b o (Nat.ne_of_lt (Heap.lt_size hb)) (by simp) hb) _ _ n1, n2⟩
      · obtain ⟨ob, es, ep, k1, k2, k3, k4, k5, k6⟩ := dd
        refine fin (fun b o e => hk b o (by simp) e) k1 k2 k3 ?_
        rw [k4]
        exact entsH_back hw (foldP_H nil_cls cp List.nodup_nil .nil h1)
    | false =>
      obtain ⟨ps, h1, h2⟩ := skeys (P := X.prog) (w := X.w) (ρ := ρ) pu cp
      refine PySem.call_dict_pairs (knd := mixKind X.prog X.w) (kvs := ps) P (I.ok.hd hc) ok ⟨(Paired.length h2).symm, fun i key v hr => ?_⟩ hsz fun h' tk dd hk => ?_
      · have hr : us[i]? = some (key, v) := hr
        obtain ⟨q, e3, e4, e5⟩ := paired_to h2 hr
        exact ⟨q.1, by rw [e3]; exact congrArg some (Prod.ext rfl e5.symm), e4⟩
      · obtain ⟨ob, es, ep, k1, k2, k3, k4, k5, k6⟩ := dd
        refine fin (fun b o e => hk b o (by simp) e) k1 k2 k3 ?_
        have pf := foldP_S nil_cls cp List.nodup_nil .nil h1
        refine entsS_back hw k5 (fun e he => k4 e (Array.mem_toList_iff.mp he)) pf fun p hp => ⟨foldP_cls nil_cls cp p hp, ?_⟩
        exact foldP_key (us := us) (acc := []) (fun _ h => (nomatch h)) (prs_key pu) p hp
  obtain ⟨its, rvs, pl, hz⟩ := I.list (.inl (.inl e3))
  have ei := refs_at rvs
  subst ei
  exact go (PairArg.list a (Ts.map Value.ref).toArray (fun j => Ts.getD j 0) us) ⟨plain_lst pl, pair_items pt⟩
end SW
end
section
/-! Dict comprehensions of one and of two clauses, keys of any kind. -/
namespace SW
open PySem PySem.Spec PyProof.Rows L2 SlX
variable {T : Tab} {O : Out} {ρ ρ1 ρ' : List Addr} {F F1 F' : Fz} {H H1 H' : Hp} {h h1 : CH} {s : SW.St} {σ : L2.St} {k : K} {x : KX} {Q : VK} {W : WX} {X : Cx} {E : XK}
/-! ### the table's store -/
abbrev TPut := V → V → Hp → (Hp → Prop) → Prop
def PPut (X : Cx) (D : Addr) (t : TPut) : Prop := ∀ (pins : List (Addr × Obj)) (s : Shared) (σ : L2.St) (H : Hp) (y z : V) (u r : Value) (N : Hp → Prop) (Q : Unit → Shared → Prop) (E : Value → Shared → Prop), Inv X pins σ H s → RelV y u → RelV z r → t y z H N →
  (∀ H' s', Inv X pins σ H' s' → N H' → Q () s') → wpAny (model X.prog X.w) X.A (dictSet D u r) Q E s
def tPut (T : Tab) (D : Addr) : TPut := fun y z H N => ∃ (ρ : List Addr) (F : Fz) (h : CH) (l : List (DV × DV)) (d x : DV) (t : Bool) (i : Nat), Rep T ρ F H h ∧ h[i]? = some (.dic false l) ∧ ρ[i]? = some D ∧ RV T ρ F H d y ∧ RV T ρ F H x z ∧ (∀ p ∈ l, KC t p.1) ∧ KC t d ∧ (storeL l d x).length ≤ mx ∧
  ∀ ob, Rep T ρ F (upd H D (obE D ob)) (h.set i (.dic false (storeL l d x))) → Le ρ F H ρ F (upd H D (obE D ob)) → N (upd H D (obE D ob))
theorem put_ok {D : Addr} (hw : T.w = X.w) (hu : X.A.units + 10 < cLine) : PPut X D (tPut T D) := by
  intro pins sh σ H y vx u ux N Q E I ry rux hq hQ
  obtain ⟨ρ, F, h, l, d, x, t, i, rp, em, ea, r, rx, c, hd, hlen, hN⟩ := hq
  obtain ⟨a', ea', _, o⟩ := rp.cells i _ em
  rw [ea] at ea'
  cases ea'
  have hm : D ∈ ρ := List.mem_of_getElem? ea
  have le : ∀ {ob}, Le ρ F H ρ F (upd H D (obE D ob)) := Le.put hm (rp.nf i D _ ea em rfl)
  obtain ⟨ob0, es0, ep0, g1, g2, g3, g4⟩ := o.obj
  have mu : Mut (H D) := by rw [g1]; exact True.intro
  have hz : l.length ≤ sizeLine := line_of o.len
  have nd : ((storeL l d x).map fun p => toNK p.1).Nodup := storeL_nodup (fun p hp => (c p hp).eq hd) o.nod
  have kc' := storeL_cls (x := x) c hd
  have fin : ∀ {h' : Heap} {t' : Nat} (ob : Obj) es ep, Heap.SameBut D sh.heap h' → h'.get? D = some ob → ob.ExactDict → ob.data = .dict es ep → Paired (DEnt T ρ F (upd H D (obE D ob))) (storeL l d x) es.toList → Q () { sh with heap := h', toks := t' } := fun {h' t'} ob es ep hs e1 e2 e3 e4 =>
    hQ _ _ (d_write I mu hs ⟨ob, e1⟩ (obE_ok e1)) (hN ob (rp.put em ea (by simp) (by simp) (by simp) rfl ⟨fun z => (nomatch z), o.sm, hlen, nd, by
      cases t with
      | true => exact .inl kc'
      | false => exact .inr kc', ob, es, ep, upd_same, e2, e3, e4⟩) le)
  cases t with
  | true =>
    obtain ⟨b, rfl, ri⟩ := key_addr hd r
    obtain rfl : u = Value.ref b := ry
    obtain ⟨xs, h1, h2⟩ := dH hw I o c
    refine wpAny_dictSet_heap (hsz := by rw [← Paired.length h2]; exact hz) (show X.A.units + 8 < cLine by omega) (isH I hd ri) h1 fun h' dd hs => ?_
    have pt := (colH h2 c hd).put (x := x) (g := fun b => (b.1, ux)) (nb := (b, ux)) (fun p b q => ⟨q.1, vx, rux, rx⟩) ⟨ri, vx, rux, rx⟩ (by rw [pair_keys (key := toNK) h2]; exact o.nod)
    rw [storedH_eq] at dd
    obtain ⟨ob, es, ep, k1, k2, k3, k4, k5, k6⟩ := dd
    refine fin ob es ep hs k1 k2 k3 ?_
    rw [k4]
    exact entsH_back hw (Paired.mapP pt fun p q z => ⟨z.1, z.2.le le⟩)
  | false =>
    obtain ⟨kvs, h1, h2⟩ := dS hw I o c
    obtain ⟨i1, _⟩ := kOf_is (P := X.prog) (w := X.w) hd (hd.imm r) ry
    refine wpAny_dictSet_pairs (hsz := by rw [← Paired.length h2]; exact hz) i1 h1 fun h' dd hs => ?_
    have pt := (colS h2 c hd).put (x := x) (g := fun _ => ux) (nb := ux) (fun p b q => ⟨vx, rux, rx⟩) ⟨vx, rux, rx⟩ (by rw [pair_keys (key := kOf) h2]; exact nodup_k c o.nod)
    obtain ⟨ob, es, ep, k1, k2, k3, k4, k5, k6⟩ := dd
    refine fin ob es ep hs k1 k2 k3 ?_
    refine entsS_back hw k5 (fun e he => k4 e (Array.mem_toList_iff.mp he)) (Paired.mapP pt fun p q z => ⟨z.1, z.2.le le⟩) fun p hp => ⟨kc' p hp, ?_⟩
    rcases storeL_mem hp with ⟨q, hq, e⟩ | e
    · rw [e]
      obtain ⟨es1, he1⟩ := ent_mem g4 hq
      obtain ⟨v, _, ri⟩ := he1.key
      exact ⟨v, ri.le le⟩
    · rw [e]
      exact ⟨y, (hd.imm r).le le⟩
/-! ### two clauses: the turns -/
theorem dturn_out (kx vx t0 i0 t1 i1 : Expr) (ifs0 ifs1 : List Expr) (scope : Scope) (pos : Pos) (it : Value) (D : Addr) (env : Env) :
    compTurn (.DictComp kx vx [⟨t0, i0, ifs0, 0⟩, ⟨t1, i1, ifs1, 0⟩] scope pos) 0 it (.ref D) env = (do
      standAt i0.pos
      match ← pyNext it with
      | none => pure (.done .next)
      | some v =>
        letOwnedTupleGo t0 it v
        assign t0 env v
        let mut ok := true
        for c in ifs0 do
          if ok then ok ← isTrue c env (eval c env)
        if ok then
          let x ← eval i1 env
          standAt i1.pos
          let x ← foldedSetIterable i1 env x
          let _ ← runOwn (.compStart (.DictComp kx vx [⟨t0, i0, ifs0, 0⟩, ⟨t1, i1, ifs1, 0⟩] scope pos) 1 (← holding [x] (pyIter x)) (.ref D) env) env
        again (.compLoop (.DictComp kx vx [⟨t0, i0, ifs0, 0⟩, ⟨t1, i1, ifs1, 0⟩] scope pos) 0 it (.ref D) env)) := by rfl
theorem dturn_in (kx vx t0 i0 t1 i1 : Expr) (ifs0 ifs1 : List Expr) (scope : Scope) (pos : Pos) (it : Value) (D : Addr) (env : Env) :
    compTurn (.DictComp kx vx [⟨t0, i0, ifs0, 0⟩, ⟨t1, i1, ifs1, 0⟩] scope pos) 1 it (.ref D) env = (do
      standAt i1.pos
      match ← pyNext it with
      | none => pure (.done .next)
      | some v =>
        letOwnedTupleGo t1 it v
        assign t1 env v
        let mut ok := true
        for c in ifs1 do
          if ok then ok ← isTrue c env (eval c env)
        if ok then
          (do
            let kv ← eval kx env
            let vv ← holding [kv] (eval vx env)
            standAt { kx.pos with endLine := vx.pos.endLine, endCol := vx.pos.endCol }
            holding [kv, vv] (dictSet D kv vv))
        again (.compLoop (.DictComp kx vx [⟨t0, i0, ifs0, 0⟩, ⟨t1, i1, ifs1, 0⟩] scope pos) 1 it (.ref D) env)) := by rfl
section
variable {prog : Program} {w : World} {A : Around} {R : Result → Shared → Prop} {s : Shared} {kx vx t0 i0 t1 i1 : Expr} {ifs0 ifs1 : List Expr} {scope : Scope} {pos : Pos} {it : Value} {D : Addr} {env : Env}
theorem dloop_out (hs : ∀ x, foldedSetIterable i1 env x = pure x) (I : Nat → Shared → Prop)
    (turn : ∀ n s, I n s → wpAny (model prog w) A (pyNext it) (fun r s₁ => match r with
      | none => R (.ok .next) s₁
      | some v => wpAny (model prog w) A (letOwnedTupleGo t0 it v) (fun _ s₁' => wpAny (model prog w) A (assign t0 env v) (fun _ s₂ =>
          wpAny (model prog w) A (forIn ifs0 true fun c r => if r = true then do let ok ← isTrue c env (eval c env); pure (ForInStep.yield ok) else pure (ForInStep.yield r)) (fun ok s₃ =>
            if ok = true then wpAny (model prog w) A (eval i1 env) (fun x s₄ => wpAny (model prog w) A (pyIter x) (fun it1 s₅ =>
              codeAny (model prog w) A (.compStart (.DictComp kx vx [⟨t0, i0, ifs0, 0⟩, ⟨t1, i1, ifs1, 0⟩] scope pos) 1 it1 (.ref D) env) (fun r s' => match r with
                | .ok _ => ∃ m, m < n ∧ I m s'
                | .error _ => False) s₅) (notedBy (model prog w) A env fun e s' => R (.error e) s') s₄) (notedBy (model prog w) A env fun e s' => R (.error e) s') s₃
            else ∃ m, m < n ∧ I m s₃) (notedBy (model prog w) A env fun e s' => R (.error e) s') s₂) (notedBy (model prog w) A env fun e s' => R (.error e) s') s₁') (notedBy (model prog w) A env fun e s' => R (.error e) s') s₁) (notedBy (model prog w) A env fun e s' => R (.error e) s') s)
    (n : Nat) (h : I n s) : codeAny (model prog w) A (.compLoop (.DictComp kx vx [⟨t0, i0, ifs0, 0⟩, ⟨t1, i1, ifs1, 0⟩] scope pos) 0 it (.ref D) env) R s := by
  refine codeAny_loop rfl I (fun n s hI => ?_) n h
  show wpAny _ A ((compTurn (.DictComp kx vx [⟨t0, i0, ifs0, 0⟩, ⟨t1, i1, ifs1, 0⟩] scope pos) 0 it (.ref D) env).onRaise (fun x => do noteFrame x env; theTreesLotGoes x)) _ _ s
  refine wpAny_noted ?_
  rw [dturn_out]
  refine wpAny_bind (wpAny_standAt (wpAny_bind (wpAny_mono (turn n s hI) (fun r s₁ h₁ => ?_) fun _ _ h' => h')))
  cases r with
  | none => exact wpAny_pure h₁
  | some v =>
    refine wpAny_bind (wpAny_mono h₁ (fun _ s₁' h₁' => ?_) fun _ _ h' => h')
    refine wpAny_bind (wpAny_mono h₁' (fun _ s₂ h₂ => wpAny_bind (wpAny_mono h₂ (fun ok s₃ h₃ => ?_) fun _ _ h' => h')) fun _ _ h' => h')
    cases ok with
    | false => exact wpAny_pure ⟨rfl, h₃⟩
    | true =>
      refine wpAny_bind (wpAny_mono h₃ (fun x s₄ h₄ => ?_) fun _ _ h' => h')
      refine wpAny_bind (wpAny_standAt (wpAny_bind (wpAny_of_eq (hs x) (wpAny_bind (wpAny_holding (wpAny_mono h₄ (fun it1 s₅ h₅ => ?_) fun _ _ h' => h'))))))
      refine wpAny_bind (wpAny_runOwn ?_)
      rw [Around.mark_none]
      refine codeAny_mono h₅ fun r s' hr => ?_
      cases r with
      | ok f =>
        first
          | exact wpAny_pure ⟨rfl, hr⟩
          | exact wpAny_bind (wpAny_pure (wpAny_pure ⟨rfl, hr⟩))
      | error e => exact hr.elim
theorem dloop_in (I : Nat → Shared → Prop)
    (turn : ∀ n s, I n s → wpAny (model prog w) A (pyNext it) (fun r s₁ => match r with
      | none => R (.ok .next) s₁
      | some v => wpAny (model prog w) A (letOwnedTupleGo t1 it v) (fun _ s₁' => wpAny (model prog w) A (assign t1 env v) (fun _ s₂ =>
          wpAny (model prog w) A (forIn ifs1 true fun c r => if r = true then do let ok ← isTrue c env (eval c env); pure (ForInStep.yield ok) else pure (ForInStep.yield r)) (fun ok s₃ =>
            if ok = true then wpAny (model prog w) A (eval kx env) (fun kv s₄ => wpAny (model prog w) A (eval vx env) (fun vv s₅ =>
              wpAny (model prog w) A (dictSet D kv vv) (fun _ s₆ => ∃ m, m < n ∧ I m s₆) (notedBy (model prog w) A env fun e s' => R (.error e) s') s₅) (notedBy (model prog w) A env fun e s' => R (.error e) s') s₄) (notedBy (model prog w) A env fun e s' => R (.error e) s') s₃
            else ∃ m, m < n ∧ I m s₃) (notedBy (model prog w) A env fun e s' => R (.error e) s') s₂) (notedBy (model prog w) A env fun e s' => R (.error e) s') s₁') (notedBy (model prog w) A env fun e s' => R (.error e) s') s₁) (notedBy (model prog w) A env fun e s' => R (.error e) s') s)
    (n : Nat) (h : I n s) : codeAny (model prog w) A (.compLoop (.DictComp kx vx [⟨t0, i0, ifs0, 0⟩, ⟨t1, i1, ifs1, 0⟩] scope pos) 1 it (.ref D) env) R s := by
  refine codeAny_loop rfl I (fun n s hI => ?_) n h
  show wpAny _ A ((compTurn (.DictComp kx vx [⟨t0, i0, ifs0, 0⟩, ⟨t1, i1, ifs1, 0⟩] scope pos) 1 it (.ref D) env).onRaise (fun x => do noteFrame x env; theTreesLotGoes x)) _ _ s
  refine wpAny_noted ?_
  rw [dturn_in]
  refine wpAny_bind (wpAny_standAt (wpAny_bind (wpAny_mono (turn n s hI) (fun r s₁ h₁ => ?_) fun _ _ h' => h')))
  cases r with
  | none => exact wpAny_pure h₁
  | some v =>
    refine wpAny_bind (wpAny_mono h₁ (fun _ s₁' h₁' => ?_) fun _ _ h' => h')
    refine wpAny_bind (wpAny_mono h₁' (fun _ s₂ h₂ => wpAny_bind (wpAny_mono h₂ (fun ok s₃ h₃ => ?_) fun _ _ h' => h')) fun _ _ h' => h')
    cases ok with
    | false => exact wpAny_pure ⟨rfl, h₃⟩
    | true =>
      exact wpAny_bind (wpAny_bind (wpAny_mono h₃ (fun kv s₄ h₄ => wpAny_bind (wpAny_holding (wpAny_mono h₄ (fun vv s₅ h₅ => wpAny_bind (wpAny_standAt (wpAny_holding (wpAny_mono h₅ (fun _ s₆ h₆ => wpAny_pure ⟨rfl, h₆⟩) fun _ _ h' => h')))) fun _ _ h' => h'))) fun _ _ h' => h'))
theorem dstart1 (h0 : codeAny (model prog w) A (.compLoop (.DictComp kx vx [⟨t0, i0, ifs0, 0⟩, ⟨t1, i1, ifs1, 0⟩] scope pos) 1 it (.ref D) env) R s)
    (h : wpAny (model prog w) A (pyIter it) (fun it' s' => codeAny (model prog w) A (.compLoop (.DictComp kx vx [⟨t0, i0, ifs0, 0⟩, ⟨t1, i1, ifs1, 0⟩] scope pos) 1 it' (.ref D) env) R s') (notedBy (model prog w) A env fun x s' => R (.error x) s') s) :
    codeAny (model prog w) A (.compStart (.DictComp kx vx [⟨t0, i0, ifs0, 0⟩, ⟨t1, i1, ifs1, 0⟩] scope pos) 1 it (.ref D) env) R s := by
  refine codeAny_of_tree ?_
  show wpAny _ _ ((compStart (.DictComp kx vx [⟨t0, i0, ifs0, 0⟩, ⟨t1, i1, ifs1, 0⟩] scope pos) 1 it (.ref D) env).onRaise (fun x => do noteFrame x env; standAt theWindowsPlace)) _ _ s
  refine wpAny_notedAt ?_
  unfold compStart
  show wpAny _ _ (ask >>= _) _ _ s
  refine wpAny_bind (wpAny_askSetting (wpAny_ite ?_))
  split
  · first
      | exact wpAny_bind (wpAny_pure (wpAny_pure (And.intro rfl h0)))
      | exact wpAny_pure (And.intro rfl h0)
  · first
      | exact wpAny_bind (wpAny_rule (wpAny_bind (wpAny_standAt (wpAny_bind (wpAny_mono h (fun it' s' h' => wpAny_pure (And.intro rfl h')) fun _ _ x => x)))))
      | (refine wpAny_bind (wpAny_rule ?_); show wpAny _ _ (standAt i1.pos >>= _) _ _ s; exact wpAny_bind (wpAny_standAt (wpAny_bind (wpAny_mono h (fun it' s' h' => wpAny_pure (And.intro rfl h')) fun _ _ x => x))))
end
/-! ### the blocks -/
section
/-- {k: v for tg in iter if ..} -/
def tDcO (wi : TI) (g : TG) (tt : TT) (tk tv : TE) (put : Addr → TPut) (vs : List Nat) : TE := fun σ H Q => wi σ H fun J H1 => ∀ D ob, H1 D = none → ob = { cls := .type "dict", data := .dict #[] } → (D == sysModules) = false → ∃ W : Nat → Nat → Hp → Prop, (∃ m, W 0 m (upd H1 D (obE D ob))) ∧ ∀ i m H, W i m H →
  (J.stop i H ∧ Q (.ref D) H) ∨ (J.go i H ∧ ∃ Nx : Hp → Prop, (∀ H', Nx H' → ∃ m', m' < m ∧ W (i + 1) m' H') ∧ ∀ x H', J.yld i H x H' → g x (wipe σ vs) H' fun σ2 H2 => wipe σ2 vs = wipe σ vs ∧ tt σ2 H2 fun b H3 =>
    if b = true then tk σ2 H3 fun y H4 => tv σ2 H4 fun z H5 => put D y z H5 Nx else Nx H3)
/-- {k: v for tg in iter if .. for tg1 in iter1 if ..} -/
def tDcO2 (wi : TI) (g : TG) (tt : TT) (wi1 : TI) (g1 : TG) (tt1 : TT) (tk tv : TE) (put : Addr → TPut) (vs vs1 : List Nat) : TE := fun σ H Q => wi σ H fun J H1 => ∀ D ob, H1 D = none → ob = { cls := .type "dict", data := .dict #[] } → (D == sysModules) = false → ∃ W : Nat → Nat → Hp → Prop, (∃ m, W 0 m (upd H1 D (obE D ob))) ∧ ∀ i m H, W i m H →
  (J.stop i H ∧ Q (.ref D) H) ∨ (J.go i H ∧ ∃ Nx : Hp → Prop, (∀ H', Nx H' → ∃ m', m' < m ∧ W (i + 1) m' H') ∧ ∀ x H', J.yld i H x H' → g x (wipe σ vs) H' fun σ2 H2 => wipe σ2 vs = wipe σ vs ∧ tt σ2 H2 fun b H3 =>
    if b = true then wi1 σ2 H3 fun J1 H4 => ∃ W1 : Nat → Nat → Hp → Prop, (∃ m, W1 0 m H4) ∧ ∀ j k H, W1 j k H →
      (J1.stop j H ∧ Nx H) ∨ (J1.go j H ∧ ∃ Nx1 : Hp → Prop, (∀ H', Nx1 H' → ∃ k', k' < k ∧ W1 (j + 1) k' H') ∧ ∀ x H', J1.yld j H x H' → g1 x (wipe σ2 vs1) H' fun σ3 H5 => wipe σ3 vs1 = wipe σ2 vs1 ∧ tt1 σ3 H5 fun b H6 =>
        if b = true then tk σ3 H6 fun y H7 => tv σ3 H7 fun z H8 => put D y z H8 Nx1 else Nx1 H6)
    else Nx H3)
theorem dc1_core {pins : List (Addr × Obj)} {s : Shared} {σ : L2.St} {H : Hp} {Q : VK} {kx vx tg iter : Expr} {ifs : List Expr} {scope : Scope} {own : List (Str × Nat)} {pos pos' : Pos} {wi : TI} {g : TG} {tt : TT} {tk tv : TE} {put : Addr → TPut} {use : Option (Value → Sem Unit)} {Qf : Value → Shared → Prop}
    (hc : X.calm = true) (hN : X.N.Nodup) (I : Inv X pins σ H s) (hi : PI X tg iter wi) (ok : BlkOk X.N X.env.scope scope own)
    (hst : ∀ (D : Addr) (s : Shared) (H : Hp) (ce : Env) (fp : List Addr), PPut (X.blk s H scope ce fp) D (put D))
    (hg : ∀ (s : Shared) (H : Hp) (C : Addr) (cl : List (Str × Addr)) (fp : List Addr), PG (X.blk s H scope (compEnvC scope cl C X.env) fp) tg g) (ht : ∀ (s : Shared) (H : Hp) (C : Addr) (cl : List (Str × Addr)) (fp : List Addr), PTs (X.blk s H scope (compEnvC scope cl C X.env) fp) ifs tt) (hk : ∀ (s : Shared) (H : Hp) (C : Addr) (cl : List (Str × Addr)) (fp : List Addr), PE (X.blk s H scope (compEnvC scope cl C X.env) fp) kx tk) (he : ∀ (s : Shared) (H : Hp) (C : Addr) (cl : List (Str × Addr)) (fp : List Addr), PE (X.blk s H scope (compEnvC scope cl C X.env) fp) vx tv) (hs : ∀ x, foldedSetIterable iter X.env x = pure x)
    (h : tDcO wi g tt tk tv put (own.map (·.2)) σ H Q)
    (hRR : ∀ D C s' m H', Inv X pins σ H' s' → Q (.ref D) H' → s'.heap.Ns C m → FpOk X pins H' C → compPost (model X.prog X.w) X.A X.xe use Qf (.ref D) C (.ok .next) s') :
    wpAny (model X.prog X.w) X.A (comprehension (.DictComp kx vx [⟨tg, iter, ifs, 0⟩] scope pos) scope X.env pos' newDict false (eval iter X.env) use) Qf X.xe s := by
  have hfree : ∀ y ∈ scope.names, y.2 = .free → ∃ c, X.env.cells.lookup y.1 = some c := fun y hy e => by
    rcases ok.free y hy e with k | k
    · exact I.ok.has _ (.inl k)
    · exact I.ok.has _ (.inr k)
  refine wpAny_comprehension_free (use := use) rfl hs (closure_ok hfree) ok.kind (fun y hy e => by rw [ok.uniq y hy, e])
    (thn (hi.run pins s σ H _ I h) fun xv s1 hx => thn hx fun itv s2 h2 => ?_)
  obtain ⟨it, fp, tn, J, H2, e, I2, T, st2, f2, q⟩ := h2
  subst e
  refine wpAny_newObj_type (newEnv_comp ?_)
  generalize hD : s2.heap.objs.size = D
  have hDn : H2 D = none := I2.hok.fresh (Nat.le_of_eq hD)
  have hsm : (D == sysModules) = false := by rw [← hD]; exact beq_eq_false_iff_ne.mpr (Nat.ne_of_gt I2.big)
  have hput := hst D
  obtain ⟨W, ⟨m0, w0⟩, turn⟩ := q D _ hDn rfl hsm
  generalize hs3 : ({ s2 with heap := s2.heap.push { cls := .type "dict", data := .dict #[] } } : Shared) = s3
  have I3 : Inv X pins σ (upd H2 D (obE D { cls := .type "dict", data := .dict #[] })) s3 := by
    rw [← hs3]
    refine I2.laid (t' := s2.toks) (fun b o e => Heap.get?_push_of_some _ e) (Nat.le_of_eq hD) ?_
    rw [← hD]
    exact obE_ok (Heap.get?_push_size _ rfl)
  have h3 : s3.heap = s2.heap.push { cls := .type "dict", data := .dict #[] } := by rw [← hs3]
  have sz : ∀ b ∈ fp, b < s2.heap.objs.size := fun b hb => by
    obtain ⟨o, e, _⟩ := T.obj _ _ st2 b hb
    exact Heap.lt_size e
  have f3 : ∀ b ∈ fp, FpOk X pins (upd H2 D (obE D { cls := .type "dict", data := .dict #[] })) b ∧ b < s3.heap.objs.size := fun b hb => by
    have hlt := sz b hb
    refine ⟨⟨?_, (f2 b hb).2⟩, by rw [h3, Heap.size_push]; exact Nat.lt_succ_of_lt hlt⟩
    rw [upd_ne (by rw [← hD]; exact Nat.ne_of_lt hlt)]
    exact (f2 b hb).1
  have st3 : tn 0 s3.heap := T.keep _ _ _ st2 fun b _ o e => by rw [h3]; exact Heap.get?_push_of_some _ e
  have I4 := block_start I3 ok hN f3
  have pg := hg s3 (upd H2 D (obE D { cls := .type "dict", data := .dict #[] })) s3.heap.objs.size (cellsFrom (s3.heap.objs.size + 1) scope.names (cloFrom X.env.cells scope.names [])) fp
  have pt := ht s3 (upd H2 D (obE D { cls := .type "dict", data := .dict #[] })) s3.heap.objs.size (cellsFrom (s3.heap.objs.size + 1) scope.names (cloFrom X.env.cells scope.names [])) fp
  have pk := hk s3 (upd H2 D (obE D { cls := .type "dict", data := .dict #[] })) s3.heap.objs.size (cellsFrom (s3.heap.objs.size + 1) scope.names (cloFrom X.env.cells scope.names [])) fp
  have pe := he s3 (upd H2 D (obE D { cls := .type "dict", data := .dict #[] })) s3.heap.objs.size (cellsFrom (s3.heap.objs.size + 1) scope.names (cloFrom X.env.cells scope.names [])) fp
  show codeAny _ _ (.compStart (.DictComp kx vx [⟨tg, iter, ifs, 0⟩] scope pos) 0 (.ref it) (.ref D) (compEnvC scope (cellsFrom (s3.heap.objs.size + 1) scope.names (cloFrom X.env.cells scope.names [])) s3.heap.objs.size X.env)) (compPost (model X.prog X.w) X.A X.xe use Qf (.ref D) s3.heap.objs.size) { s3 with heap := pushCells (s3.heap.push { cls := .type "dict", data := .dict #[] }) scope.names }
  have nfp : ∀ b ∈ fp, (upd H2 D (obE D { cls := .type "dict", data := .dict #[] })) b = none := fun b hb => (f3 b hb).1.1
  generalize hce : compEnvC scope (cellsFrom (s3.heap.objs.size + 1) scope.names (cloFrom X.env.cells scope.names [])) s3.heap.objs.size X.env = ce at I4 pg pt pk pe ⊢
  have cL : ce.locals = s3.heap.objs.size := by subst hce; rfl
  have hput := hput s3 (upd H2 D (obE D { cls := .type "dict", data := .dict #[] })) ce fp
  generalize hH3 : upd H2 D (obE D { cls := .type "dict", data := .dict #[] }) = H3 at I3 I4 pg pt pk pe w0 nfp f3 hput
  generalize hs4 : ({ s3 with heap := pushCells (s3.heap.push { cls := .type "dict", data := .dict #[] }) scope.names } : Shared) = s4 at I4 ⊢
  have st4 : tn 0 s4.heap := T.keep _ _ _ st3 fun b _ o e => by rw [← hs4]; exact pushCells_keeps _ _ _ _ (Heap.get?_push_of_some _ e)
  have stat : ∀ {σ' : L2.St} {H' : Hp} {s' : Shared}, Inv (X.blk s3 H3 scope ce fp) [] σ' H' s' → (∀ b ∈ fp, H' b = none) → ∀ b ∈ fp, FpOk (X.blk s3 H3 scope ce fp) [] H' b := fun {σ' H' s'} I' hn b hb =>
    ⟨hn b hb, (I'.ok.exf b hb).1, I'.ok.exfs b hb, .inl hb, fun x c e => (I'.ok.exf b hb).2 x c e, fun p hp => absurd (show p ∈ ([] : List (Addr × Obj)) ++ [] from hp) (by simp)⟩
  have loop : codeAny (model X.prog X.w) X.A (.compLoop (.DictComp kx vx [⟨tg, iter, ifs, 0⟩] scope pos) 0 (.ref it) (.ref D) ce) (compPost (model X.prog X.w) X.A X.xe use Qf (.ref D) s3.heap.objs.size) s4 := by
    refine compLoop_anyD (fun n s' => ∃ i H', Inv (X.blk s3 H3 scope ce fp) [] (wipe σ (own.map (·.2))) H' s' ∧ tn i s'.heap ∧ (∀ b ∈ fp, H' b = none) ∧ W i n H') ?_ m0 ⟨0, H3, I4, st4, nfp, w0⟩
    rintro n s5 ⟨i, H5, I5, st5, n5, w5⟩
    rcases turn i n H5 w5 with ⟨stop, qq⟩ | ⟨go, Nx, hNx, step⟩
    · have td := T.done (X.blk s3 H3 scope ce fp) rfl rfl rfl hc i [] s5 _ H5 (fun _ _ => False) I5 (stat I5 n5) st5 stop
      refine thnF td fun r s6 ⟨hr, I6⟩ => ?_
      subst hr
      have I7 : Inv X pins σ H5 s6 := I3.call' (ch := fp) I6.os I6.base I6.hok I6.bare fun b hb => ⟨(f3 b hb).1.2.2.2.1, (f3 b hb).1.2.1, (f3 b hb).1.2.2.2.2.1, (f3 b hb).1.2.2.2.2.2⟩
      have nC : H5 s3.heap.objs.size = none := by
        have z : H5 ce.locals = none := I6.free
        rw [cL] at z
        exact z
      obtain ⟨m, hn, _⟩ := I6.loc
      have hn : s6.heap.Ns ce.locals m := hn
      rw [cL] at hn
      exact hRR D s3.heap.objs.size s6 m H5 I7 qq hn (I3.fpOk (Nat.le_refl _) nC)
    · have ti := T.item (X.blk s3 H3 scope ce fp) rfl rfl rfl hc i [] s5 _ H5 (fun _ _ => False) I5 (stat I5 n5) st5 go
      refine thnF ti fun r s6 ⟨u, hr, h6⟩ => ?_
      subst hr
      refine thnF h6 fun _ s7 ⟨x, H7, I7, r7, y7, st7, n7⟩ => ?_
      have I7' := I7.pinned (stat I7 n7) (T.obj _ _ st7)
      refine thnF (pg.run _ s7 _ H7 x u _ I7' r7 (step x H7 y7)) fun _ s8 ⟨σ8, H8, I8, hw8, q8⟩ => ?_
      refine thnF (pt.run _ s8 σ8 H8 _ I8 q8) fun b s9 ⟨H9, I9, q9⟩ => ?_
      have fin : ∀ {s' : Shared} {H' : Hp}, Inv (X.blk s3 H3 scope ce fp) ([] ++ pinsAt fp s7.heap) σ8 H' s' → Nx H' → ∃ m, m < n ∧ ∃ i H', Inv (X.blk s3 H3 scope ce fp) [] (wipe σ (own.map (·.2))) H' s' ∧ tn i s'.heap ∧ (∀ b ∈ fp, H' b = none) ∧ W i m H' := fun {s' H'} I' nx => by
        obtain ⟨m', hm, w'⟩ := hNx H' nx
        have pin' : ∀ b ∈ fp, ∀ o, s7.heap.get? b = some o → s'.heap.get? b = some o ∧ H' b = none := fun b hb o e =>
          let z := I'.pin (b, o) (List.mem_append_right _ (List.mem_append_right _ (mem_pinsAt hb e)))
          ⟨z.1, z.2.1⟩
        have hl : (wipe σ (own.map (·.2))).length = σ8.length := by rw [← hw8, wipe_length]
        refine ⟨m', hm, i + 1, H', (I'.unpinned (pins := [])).weak hl (fun j v e => ?_), T.keep _ _ _ st7 fun b hb o e => (pin' b hb o e).1, fun b hb => ?_, w'⟩
        · rw [← hw8] at e
          exact (wipe_some e).1
        · obtain ⟨o, e, _⟩ := T.obj _ _ st7 b hb
          exact (pin' b hb o e).2
      cases b with
      | false =>
        simp only [Bool.false_eq_true, if_false] at q9 ⊢
        exact fin I9 q9
      | true =>
        simp only [if_true] at q9 ⊢
        refine thnF (pk.run _ s9 σ8 H9 _ I9 q9) fun z s10 ⟨yk, H10, I10, r10, q10⟩ => ?_
        refine thnF (pe.run _ s10 σ8 H10 _ I10 q10) fun z2 s11 ⟨yv, H11, I11, r11, q11⟩ => ?_
        exact hput _ s11 σ8 H11 yk yv z z2 Nx _ _ I11 r10 r11 q11 fun H' s' I' nx => fin I' nx
  exact codeAny_compStart_dict loop (T.self X.A 0 _ _ _ st4 loop)
theorem dc2_core {pins : List (Addr × Obj)} {s : Shared} {σ : L2.St} {H : Hp} {Q : VK} {kx vx tg iter tg1 iter1 : Expr} {ifs ifs1 : List Expr} {scope : Scope} {own : List (Str × Nat)} {vs1 : List Nat} {pos pos' : Pos} {wi wi1 : TI} {g g1 : TG} {tt tt1 : TT} {tk tv : TE} {put : Addr → TPut} {use : Option (Value → Sem Unit)} {Qf : Value → Shared → Prop}
    (hc : X.calm = true) (hN : X.N.Nodup) (I : Inv X pins σ H s) (hi : PI X tg iter wi) (ok : BlkOk X.N X.env.scope scope own) (hv : ∀ i ∈ vs1, i ∈ own.map (·.2))
    (hst : ∀ (D : Addr) (s : Shared) (H : Hp) (ce : Env) (fp : List Addr), PPut (X.blk s H scope ce fp) D (put D))
    (hg : ∀ (s : Shared) (H : Hp) (C : Addr) (cl : List (Str × Addr)) (fp : List Addr), PG (X.blk s H scope (compEnvC scope cl C X.env) fp) tg g) (ht : ∀ (s : Shared) (H : Hp) (C : Addr) (cl : List (Str × Addr)) (fp : List Addr), PTs (X.blk s H scope (compEnvC scope cl C X.env) fp) ifs tt) (hk : ∀ (s : Shared) (H : Hp) (C : Addr) (cl : List (Str × Addr)) (fp : List Addr), PE (X.blk s H scope (compEnvC scope cl C X.env) fp) kx tk) (he : ∀ (s : Shared) (H : Hp) (C : Addr) (cl : List (Str × Addr)) (fp : List Addr), PE (X.blk s H scope (compEnvC scope cl C X.env) fp) vx tv) (hs : ∀ x, foldedSetIterable iter X.env x = pure x)
    (hi1 : ∀ (s : Shared) (H : Hp) (C : Addr) (cl : List (Str × Addr)) (fp : List Addr), PI (X.blk s H scope (compEnvC scope cl C X.env) fp) tg1 iter1 wi1) (hg1 : ∀ (s : Shared) (H : Hp) (C : Addr) (cl : List (Str × Addr)) (fp : List Addr), PG (X.blk s H scope (compEnvC scope cl C X.env) fp) tg1 g1) (ht1 : ∀ (s : Shared) (H : Hp) (C : Addr) (cl : List (Str × Addr)) (fp : List Addr), PTs (X.blk s H scope (compEnvC scope cl C X.env) fp) ifs1 tt1) (hs1 : ∀ env x, foldedSetIterable iter1 env x = pure x)
    (h : tDcO2 wi g tt wi1 g1 tt1 tk tv put (own.map (·.2)) vs1 σ H Q)
    (hRR : ∀ D C s' m H', Inv X pins σ H' s' → Q (.ref D) H' → s'.heap.Ns C m → FpOk X pins H' C → compPost (model X.prog X.w) X.A X.xe use Qf (.ref D) C (.ok .next) s') :
    wpAny (model X.prog X.w) X.A (comprehension (.DictComp kx vx [⟨tg, iter, ifs, 0⟩, ⟨tg1, iter1, ifs1, 0⟩] scope pos) scope X.env pos' newDict false (eval iter X.env) use) Qf X.xe s := by
  have hfree : ∀ y ∈ scope.names, y.2 = .free → ∃ c, X.env.cells.lookup y.1 = some c := fun y hy e => by
    rcases ok.free y hy e with k | k
    · exact I.ok.has _ (.inl k)
    · exact I.ok.has _ (.inr k)
  refine wpAny_comprehension_free (use := use) rfl hs (closure_ok hfree) ok.kind (fun y hy e => by rw [ok.uniq y hy, e])
    (thn (hi.run pins s σ H _ I h) fun xv s1 hx => thn hx fun itv s2 h2 => ?_)
  obtain ⟨it, fp, tn, J, H2, e, I2, T, st2, f2, q⟩ := h2
  subst e
  refine wpAny_newObj_type (newEnv_comp ?_)
  generalize hD : s2.heap.objs.size = D
  have hDn : H2 D = none := I2.hok.fresh (Nat.le_of_eq hD)
  have hsm : (D == sysModules) = false := by rw [← hD]; exact beq_eq_false_iff_ne.mpr (Nat.ne_of_gt I2.big)
  have hput := hst D
  obtain ⟨W, ⟨m0, w0⟩, turn⟩ := q D _ hDn rfl hsm
  generalize hs3 : ({ s2 with heap := s2.heap.push { cls := .type "dict", data := .dict #[] } } : Shared) = s3
  have I3 : Inv X pins σ (upd H2 D (obE D { cls := .type "dict", data := .dict #[] })) s3 := by
    rw [← hs3]
    refine I2.laid (t' := s2.toks) (fun b o e => Heap.get?_push_of_some _ e) (Nat.le_of_eq hD) ?_
    rw [← hD]
    exact obE_ok (Heap.get?_push_size _ rfl)
  have h3 : s3.heap = s2.heap.push { cls := .type "dict", data := .dict #[] } := by rw [← hs3]
  have sz : ∀ b ∈ fp, b < s2.heap.objs.size := fun b hb => by
    obtain ⟨o, e, _⟩ := T.obj _ _ st2 b hb
    exact Heap.lt_size e
  have f3 : ∀ b ∈ fp, FpOk X pins (upd H2 D (obE D { cls := .type "dict", data := .dict #[] })) b ∧ b < s3.heap.objs.size := fun b hb => by
    have hlt := sz b hb
    refine ⟨⟨?_, (f2 b hb).2⟩, by rw [h3, Heap.size_push]; exact Nat.lt_succ_of_lt hlt⟩
    rw [upd_ne (by rw [← hD]; exact Nat.ne_of_lt hlt)]
    exact (f2 b hb).1
  have st3 : tn 0 s3.heap := T.keep _ _ _ st2 fun b _ o e => by rw [h3]; exact Heap.get?_push_of_some _ e
  have I4 := block_start I3 ok hN f3
  have pg := hg s3 (upd H2 D (obE D { cls := .type "dict", data := .dict #[] })) s3.heap.objs.size (cellsFrom (s3.heap.objs.size + 1) scope.names (cloFrom X.env.cells scope.names [])) fp
  have pt := ht s3 (upd H2 D (obE D { cls := .type "dict", data := .dict #[] })) s3.heap.objs.size (cellsFrom (s3.heap.objs.size + 1) scope.names (cloFrom X.env.cells scope.names [])) fp
  have pk := hk s3 (upd H2 D (obE D { cls := .type "dict", data := .dict #[] })) s3.heap.objs.size (cellsFrom (s3.heap.objs.size + 1) scope.names (cloFrom X.env.cells scope.names [])) fp
  have pe := he s3 (upd H2 D (obE D { cls := .type "dict", data := .dict #[] })) s3.heap.objs.size (cellsFrom (s3.heap.objs.size + 1) scope.names (cloFrom X.env.cells scope.names [])) fp
  have pi1 := hi1 s3 (upd H2 D (obE D { cls := .type "dict", data := .dict #[] })) s3.heap.objs.size (cellsFrom (s3.heap.objs.size + 1) scope.names (cloFrom X.env.cells scope.names [])) fp
  have pg1 := hg1 s3 (upd H2 D (obE D { cls := .type "dict", data := .dict #[] })) s3.heap.objs.size (cellsFrom (s3.heap.objs.size + 1) scope.names (cloFrom X.env.cells scope.names [])) fp
  have pt1 := ht1 s3 (upd H2 D (obE D { cls := .type "dict", data := .dict #[] })) s3.heap.objs.size (cellsFrom (s3.heap.objs.size + 1) scope.names (cloFrom X.env.cells scope.names [])) fp
  show codeAny _ _ (.compStart (.DictComp kx vx [⟨tg, iter, ifs, 0⟩, ⟨tg1, iter1, ifs1, 0⟩] scope pos) 0 (.ref it) (.ref D) (compEnvC scope (cellsFrom (s3.heap.objs.size + 1) scope.names (cloFrom X.env.cells scope.names [])) s3.heap.objs.size X.env)) (compPost (model X.prog X.w) X.A X.xe use Qf (.ref D) s3.heap.objs.size) { s3 with heap := pushCells (s3.heap.push { cls := .type "dict", data := .dict #[] }) scope.names }
  have nfp : ∀ b ∈ fp, (upd H2 D (obE D { cls := .type "dict", data := .dict #[] })) b = none := fun b hb => (f3 b hb).1.1
  generalize hce : compEnvC scope (cellsFrom (s3.heap.objs.size + 1) scope.names (cloFrom X.env.cells scope.names [])) s3.heap.objs.size X.env = ce at I4 pg pt pk pe pi1 pg1 pt1 ⊢
  have cL : ce.locals = s3.heap.objs.size := by subst hce; rfl
  have hput := hput s3 (upd H2 D (obE D { cls := .type "dict", data := .dict #[] })) ce fp
  generalize hH3 : upd H2 D (obE D { cls := .type "dict", data := .dict #[] }) = H3 at I3 I4 pg pt pk pe pi1 pg1 pt1 w0 nfp f3 hput
  generalize hs4 : ({ s3 with heap := pushCells (s3.heap.push { cls := .type "dict", data := .dict #[] }) scope.names } : Shared) = s4 at I4 ⊢
  have st4 : tn 0 s4.heap := T.keep _ _ _ st3 fun b _ o e => by rw [← hs4]; exact pushCells_keeps _ _ _ _ (Heap.get?_push_of_some _ e)
  have stat : ∀ {σ' : L2.St} {H' : Hp} {s' : Shared}, Inv (X.blk s3 H3 scope ce fp) [] σ' H' s' → (∀ b ∈ fp, H' b = none) → ∀ b ∈ fp, FpOk (X.blk s3 H3 scope ce fp) [] H' b := fun {σ' H' s'} I' hn b hb =>
    ⟨hn b hb, (I'.ok.exf b hb).1, I'.ok.exfs b hb, .inl hb, fun x c e => (I'.ok.exf b hb).2 x c e, fun p hp => absurd (show p ∈ ([] : List (Addr × Obj)) ++ [] from hp) (by simp)⟩
  have loop : codeAny (model X.prog X.w) X.A (.compLoop (.DictComp kx vx [⟨tg, iter, ifs, 0⟩, ⟨tg1, iter1, ifs1, 0⟩] scope pos) 0 (.ref it) (.ref D) ce) (compPost (model X.prog X.w) X.A X.xe use Qf (.ref D) s3.heap.objs.size) s4 := by
    refine dloop_out (hs1 ce) (fun n s' => ∃ i H', Inv (X.blk s3 H3 scope ce fp) [] (wipe σ (own.map (·.2))) H' s' ∧ tn i s'.heap ∧ (∀ b ∈ fp, H' b = none) ∧ W i n H') ?_ m0 ⟨0, H3, I4, st4, nfp, w0⟩
    rintro n s5 ⟨i, H5, I5, st5, n5, w5⟩
    rcases turn i n H5 w5 with ⟨stop, qq⟩ | ⟨go, Nx, hNx, step⟩
    · have td := T.done (X.blk s3 H3 scope ce fp) rfl rfl rfl hc i [] s5 _ H5 (fun _ _ => False) I5 (stat I5 n5) st5 stop
      refine thnF td fun r s6 ⟨hr, I6⟩ => ?_
      subst hr
      have I7 : Inv X pins σ H5 s6 := I3.call' (ch := fp) I6.os I6.base I6.hok I6.bare fun b hb => ⟨(f3 b hb).1.2.2.2.1, (f3 b hb).1.2.1, (f3 b hb).1.2.2.2.2.1, (f3 b hb).1.2.2.2.2.2⟩
      have nC : H5 s3.heap.objs.size = none := by
        have z : H5 ce.locals = none := I6.free
        rw [cL] at z
        exact z
      obtain ⟨m, hn, _⟩ := I6.loc
      have hn : s6.heap.Ns ce.locals m := hn
      rw [cL] at hn
      exact hRR D s3.heap.objs.size s6 m H5 I7 qq hn (I3.fpOk (Nat.le_refl _) nC)
    · have ti := T.item (X.blk s3 H3 scope ce fp) rfl rfl rfl hc i [] s5 _ H5 (fun _ _ => False) I5 (stat I5 n5) st5 go
      refine thnF ti fun r s6 ⟨u, hr, h6⟩ => ?_
      subst hr
      refine thnF h6 fun _ s7 ⟨x, H7, I7, r7, y7, st7, n7⟩ => ?_
      have I7' := I7.pinned (stat I7 n7) (T.obj _ _ st7)
      refine thnF (pg.run _ s7 _ H7 x u _ I7' r7 (step x H7 y7)) fun _ s8 ⟨σ8, H8, I8, hw8, q8⟩ => ?_
      refine thnF (pt.run _ s8 σ8 H8 _ I8 q8) fun b s9 ⟨H9, I9, q9⟩ => ?_
      have fin : ∀ {σ9 : L2.St} {s' : Shared} {H' : Hp}, Inv (X.blk s3 H3 scope ce fp) ([] ++ pinsAt fp s7.heap) σ9 H' s' → (wipe σ (own.map (·.2))).length = σ9.length → (∀ (j : Nat) v, (wipe σ (own.map (·.2)))[j]? = some (some v) → σ9[j]? = some (some v)) → Nx H' →
          ∃ m, m < n ∧ ∃ i H', Inv (X.blk s3 H3 scope ce fp) [] (wipe σ (own.map (·.2))) H' s' ∧ tn i s'.heap ∧ (∀ b ∈ fp, H' b = none) ∧ W i m H' := fun {σ9 s' H'} I' hl hk nx => by
        obtain ⟨m', hm, w'⟩ := hNx H' nx
        have pin' : ∀ b ∈ fp, ∀ o, s7.heap.get? b = some o → s'.heap.get? b = some o ∧ H' b = none := fun b hb o e =>
          let z := I'.pin (b, o) (List.mem_append_right _ (List.mem_append_right _ (mem_pinsAt hb e)))
          ⟨z.1, z.2.1⟩
        refine ⟨m', hm, i + 1, H', (I'.unpinned (pins := [])).weak hl hk, T.keep _ _ _ st7 fun b hb o e => (pin' b hb o e).1, fun b hb => ?_, w'⟩
        obtain ⟨o, e, _⟩ := T.obj _ _ st7 b hb
        exact (pin' b hb o e).2
      have hl8 : (wipe σ (own.map (·.2))).length = σ8.length := by rw [← hw8, wipe_length]
      have hk8 : ∀ (j : Nat) v, (wipe σ (own.map (·.2)))[j]? = some (some v) → σ8[j]? = some (some v) := fun j v e => by
        rw [← hw8] at e
        exact (wipe_some e).1
      have hk9 : ∀ (j : Nat) v, (wipe σ (own.map (·.2)))[j]? = some (some v) → (wipe σ8 vs1)[j]? = some (some v) := fun j v e => by
        rw [← hw8] at e
        obtain ⟨e1, e2⟩ := wipe_some e
        rw [wipe_out fun z => e2 (hv j z)]
        exact e1
      cases b with
      | false =>
        simp only [Bool.false_eq_true, if_false] at q9 ⊢
        exact fin I9 hl8 hk8 q9
      | true =>
        simp only [if_true] at q9 ⊢
        refine thnF (pi1.run _ s9 σ8 H9 _ I9 q9) fun xv s10 hx => thnF hx fun itv s11 h11 => ?_
        obtain ⟨it1, fp1, tn1, J1, H11, e1, I11, T1, st11, f11, W1, ⟨m1, w1⟩, turn1⟩ := h11
        subst e1
        have stat1 : ∀ {H' : Hp}, (∀ b ∈ fp1, H' b = none) → ∀ b ∈ fp1, FpOk (X.blk s3 H3 scope ce fp) ([] ++ pinsAt fp s7.heap) H' b := fun hn b hb => ⟨hn b hb, (f11 b hb).2⟩
        have loop1 : codeAny (model X.prog X.w) X.A (.compLoop (.DictComp kx vx [⟨tg, iter, ifs, 0⟩, ⟨tg1, iter1, ifs1, 0⟩] scope pos) 1 (.ref it1) (.ref D) ce)
            (fun r s' => match r with
              | .ok _ => ∃ m, m < n ∧ ∃ i H', Inv (X.blk s3 H3 scope ce fp) [] (wipe σ (own.map (·.2))) H' s' ∧ tn i s'.heap ∧ (∀ b ∈ fp, H' b = none) ∧ W i m H'
              | .error _ => False) s11 := by
          refine dloop_in (fun k s' => ∃ j H', Inv (X.blk s3 H3 scope ce fp) ([] ++ pinsAt fp s7.heap) (wipe σ8 vs1) H' s' ∧ tn1 j s'.heap ∧ (∀ b ∈ fp1, H' b = none) ∧ W1 j k H') ?_ m1 ⟨0, H11, I11.weak (wipe_length _ _) (fun j v e => (wipe_some e).1), st11, fun b hb => (f11 b hb).1, w1⟩
          rintro k s12 ⟨j, H12, I12, st12, n12, w12⟩
          rcases turn1 j k H12 w12 with ⟨stop1, nx1⟩ | ⟨go1, Nx1, hNx1, step1⟩
          · refine thnF (T1.done (X.blk s3 H3 scope ce fp) rfl rfl rfl hc j _ s12 (wipe σ8 vs1) H12 (fun _ _ => False) I12 (stat1 n12) st12 stop1) fun r s13 ⟨hr, I13⟩ => ?_
            subst hr
            exact fin I13 (hl8.trans (wipe_length σ8 vs1).symm) hk9 nx1
          · refine thnF (T1.item (X.blk s3 H3 scope ce fp) rfl rfl rfl hc j _ s12 (wipe σ8 vs1) H12 (fun _ _ => False) I12 (stat1 n12) st12 go1) fun r s13 ⟨u1, hr, h13⟩ => ?_
            subst hr
            refine thnF h13 fun _ s14 ⟨x1, H14, I14, r14, y14, st14, n14⟩ => ?_
            have I14' := I14.pinned (stat1 n14) (T1.obj _ _ st14)
            refine thnF (pg1.run _ s14 (wipe σ8 vs1) H14 x1 u1 _ I14' r14 (step1 x1 H14 y14)) fun _ s15 ⟨σ15, H15, I15, hw15, q15⟩ => ?_
            refine thnF (pt1.run _ s15 σ15 H15 _ I15 q15) fun b1 s16 ⟨H16, I16, q16⟩ => ?_
            have fin1 : ∀ {s' : Shared} {H' : Hp}, Inv (X.blk s3 H3 scope ce fp) (([] ++ pinsAt fp s7.heap) ++ pinsAt fp1 s14.heap) σ15 H' s' → Nx1 H' → ∃ m, m < k ∧ ∃ j H', Inv (X.blk s3 H3 scope ce fp) ([] ++ pinsAt fp s7.heap) (wipe σ8 vs1) H' s' ∧ tn1 j s'.heap ∧ (∀ b ∈ fp1, H' b = none) ∧ W1 j m H' := fun {s' H'} I' nx => by
              obtain ⟨m', hm, w'⟩ := hNx1 H' nx
              have pin' : ∀ b ∈ fp1, ∀ o, s14.heap.get? b = some o → s'.heap.get? b = some o ∧ H' b = none := fun b hb o e =>
                let z := I'.pin (b, o) (List.mem_append_right _ (List.mem_append_right _ (mem_pinsAt hb e)))
                ⟨z.1, z.2.1⟩
              refine ⟨m', hm, j + 1, H', I'.unpinned.weak (by rw [← hw15, wipe_length]) (fun j v e => by rw [← hw15] at e; exact (wipe_some e).1), T1.keep _ _ _ st14 fun b hb o e => (pin' b hb o e).1, fun b hb => ?_, w'⟩
              obtain ⟨o, e, _⟩ := T1.obj _ _ st14 b hb
              exact (pin' b hb o e).2
            cases b1 with
            | false =>
              simp only [Bool.false_eq_true, if_false] at q16 ⊢
              exact fin1 I16 q16
            | true =>
              simp only [if_true] at q16 ⊢
              refine thnF (pk.run _ s16 σ15 H16 _ I16 q16) fun z s17 ⟨yk, H17, I17, r17, q17⟩ => ?_
              refine thnF (pe.run _ s17 σ15 H17 _ I17 q17) fun z2 s18 ⟨yv, H18, I18, r18, q18⟩ => ?_
              exact hput _ s18 σ15 H18 yk yv z z2 Nx1 _ _ I18 r17 r18 q18 fun H' s' I' nx => fin1 I' nx
        exact dstart1 loop1 (T1.self X.A 0 _ _ _ st11 loop1)
  exact codeAny_compStart_dict loop (T.self X.A 0 _ _ _ st4 loop)
theorem pe_dcO {kx vx tg iter : Expr} {ifs : List Expr} {scope : Scope} {own : List (Str × Nat)} {pos : Pos} {wi : TI} {g : TG} {tt : TT} {tk tv : TE} {put : Addr → TPut}
    (hc : X.calm = true) (hN : X.N.Nodup) (hi : PI X tg iter wi) (ok : BlkOk X.N X.env.scope scope own) (hst : ∀ (D : Addr) (s : Shared) (H : Hp) (ce : Env) (fp : List Addr), PPut (X.blk s H scope ce fp) D (put D))
    (hg : ∀ (s : Shared) (H : Hp) (C : Addr) (cl : List (Str × Addr)) (fp : List Addr), PG (X.blk s H scope (compEnvC scope cl C X.env) fp) tg g) (ht : ∀ (s : Shared) (H : Hp) (C : Addr) (cl : List (Str × Addr)) (fp : List Addr), PTs (X.blk s H scope (compEnvC scope cl C X.env) fp) ifs tt) (hk : ∀ (s : Shared) (H : Hp) (C : Addr) (cl : List (Str × Addr)) (fp : List Addr), PE (X.blk s H scope (compEnvC scope cl C X.env) fp) kx tk) (he : ∀ (s : Shared) (H : Hp) (C : Addr) (cl : List (Str × Addr)) (fp : List Addr), PE (X.blk s H scope (compEnvC scope cl C X.env) fp) vx tv) (hs : ∀ x, foldedSetIterable iter X.env x = pure x) :
    PE X (.DictComp kx vx [⟨tg, iter, ifs, 0⟩] scope pos) (tDcO wi g tt tk tv put (own.map (·.2))) := by
  refine ⟨fun pins s σ H Q I h => ?_⟩
  rw [arm_eval_DictComp]
  refine dc1_core hc hN I hi ok hst hg ht hk he hs h fun D C s' m H' I' q hn f => ⟨m, hn, fun h'' sb => ?_⟩
  obtain ⟨f0, f1, f2, f3, f4, f5⟩ := f
  exact ⟨.ref D, H', I'.turned (t' := s'.toks) (fun b o hb e => (sb.2 b hb).trans e) f0 f1 f3 f4 f5, rfl, q⟩
theorem pe_dcO2 {kx vx tg iter tg1 iter1 : Expr} {ifs ifs1 : List Expr} {scope : Scope} {own : List (Str × Nat)} {vs1 : List Nat} {pos : Pos} {wi wi1 : TI} {g g1 : TG} {tt tt1 : TT} {tk tv : TE} {put : Addr → TPut}
    (hc : X.calm = true) (hN : X.N.Nodup) (hi : PI X tg iter wi) (ok : BlkOk X.N X.env.scope scope own) (hv : ∀ i ∈ vs1, i ∈ own.map (·.2)) (hst : ∀ (D : Addr) (s : Shared) (H : Hp) (ce : Env) (fp : List Addr), PPut (X.blk s H scope ce fp) D (put D))
    (hg : ∀ (s : Shared) (H : Hp) (C : Addr) (cl : List (Str × Addr)) (fp : List Addr), PG (X.blk s H scope (compEnvC scope cl C X.env) fp) tg g) (ht : ∀ (s : Shared) (H : Hp) (C : Addr) (cl : List (Str × Addr)) (fp : List Addr), PTs (X.blk s H scope (compEnvC scope cl C X.env) fp) ifs tt) (hk : ∀ (s : Shared) (H : Hp) (C : Addr) (cl : List (Str × Addr)) (fp : List Addr), PE (X.blk s H scope (compEnvC scope cl C X.env) fp) kx tk) (he : ∀ (s : Shared) (H : Hp) (C : Addr) (cl : List (Str × Addr)) (fp : List Addr), PE (X.blk s H scope (compEnvC scope cl C X.env) fp) vx tv) (hs : ∀ x, foldedSetIterable iter X.env x = pure x)
    (hi1 : ∀ (s : Shared) (H : Hp) (C : Addr) (cl : List (Str × Addr)) (fp : List Addr), PI (X.blk s H scope (compEnvC scope cl C X.env) fp) tg1 iter1 wi1) (hg1 : ∀ (s : Shared) (H : Hp) (C : Addr) (cl : List (Str × Addr)) (fp : List Addr), PG (X.blk s H scope (compEnvC scope cl C X.env) fp) tg1 g1) (ht1 : ∀ (s : Shared) (H : Hp) (C : Addr) (cl : List (Str × Addr)) (fp : List Addr), PTs (X.blk s H scope (compEnvC scope cl C X.env) fp) ifs1 tt1) (hs1 : ∀ env x, foldedSetIterable iter1 env x = pure x) :
    PE X (.DictComp kx vx [⟨tg, iter, ifs, 0⟩, ⟨tg1, iter1, ifs1, 0⟩] scope pos) (tDcO2 wi g tt wi1 g1 tt1 tk tv put (own.map (·.2)) vs1) := by
  refine ⟨fun pins s σ H Q I h => ?_⟩
  rw [arm_eval_DictComp]
  refine dc2_core hc hN I hi ok hv hst hg ht hk he hs hi1 hg1 ht1 hs1 h fun D C s' m H' I' q hn f => ⟨m, hn, fun h'' sb => ?_⟩
  obtain ⟨f0, f1, f2, f3, f4, f5⟩ := f
  exact ⟨.ref D, H', I'.turned (t' := s'.toks) (fun b o hb e => (sb.2 b hb).trans e) f0 f1 f3 f4 f5, rfl, q⟩
end
/-! ### codes -/
noncomputable section
abbrev KH := CH → A
/-- the table at i, with one more -/
def putD (h : CH) (i : Nat) (y z : DV) (k : KH) : A := nthK h i fun mo => mDic mo fun b l => bsel b none (keyK l y (storeK l y z [] fun l => lineD l (putK h i (.dic false l) k)))
def dcS (g : GCode) (t : TCode) (ek ev : Code) (iD : Nat) (ih : Nat → Src → SW.St → CH → KH → A) (j : Nat) (c : Src) (s0 : SW.St) (h : CH) (k : KH) : A :=
  nxt c j h (k h) fun d c => forceN (Nat.succ j) fun j => g d s0 h (fun s h => t s h (fun h => ek s h (fun y h => ev s h (fun z h => putD h iD y z fun h => ih j c s0 h k) noX) noX) (fun h => ih j c s0 h k) noX) noXS
def dcL (g : GCode) (t : TCode) (ek ev : Code) (iD : Nat) (f : Nat) : Nat → Src → SW.St → CH → KH → A := @Nat.rec (fun _ => Nat → Src → SW.St → CH → KH → A) (fun _ _ _ _ _ => none) (fun _ ih => dcS g t ek ev iD ih) f
def newD (h : CH) (k : Nat → CH → A) : A := lenK h 0 fun n => appK h [.dic false []] fun h => k n h
def eDc (i : ICode) (vs : List Nat) (g : GCode) (t : TCode) (ek ev : Code) : Code := fun s h k x => i s h (fun c h => wipeK vs s fun s0 => newD h fun iD h => dcL g t ek ev iD 1000000 0 c s0 h fun h => k (.ref iD) h) x
def dc2S (g : GCode) (t : TCode) (i1 : ICode) (vs1 : List Nat) (g1 : GCode) (t1 : TCode) (ek ev : Code) (iD : Nat) (ih : Nat → Src → SW.St → CH → KH → A) (j : Nat) (c : Src) (s0 : SW.St) (h : CH) (k : KH) : A :=
  nxt c j h (k h) fun d c => forceN (Nat.succ j) fun j => g d s0 h (fun s h => t s h (fun h => i1 s h (fun c1 h => wipeK vs1 s fun s1 => dcL g1 t1 ek ev iD 1000000 0 c1 s1 h fun h => ih j c s0 h k) noX) (fun h => ih j c s0 h k) noX) noXS
def dc2L (g : GCode) (t : TCode) (i1 : ICode) (vs1 : List Nat) (g1 : GCode) (t1 : TCode) (ek ev : Code) (iD : Nat) (f : Nat) : Nat → Src → SW.St → CH → KH → A := @Nat.rec (fun _ => Nat → Src → SW.St → CH → KH → A) (fun _ _ _ _ _ => none) (fun _ ih => dc2S g t i1 vs1 g1 t1 ek ev iD ih) f
def eDc2 (i : ICode) (vs : List Nat) (g : GCode) (t : TCode) (i1 : ICode) (vs1 : List Nat) (g1 : GCode) (t1 : TCode) (ek ev : Code) : Code := fun s h k x => i s h (fun c h => wipeK vs s fun s0 => newD h fun iD h => dc2L g t i1 vs1 g1 t1 ek ev iD 1000000 0 c s0 h fun h => k (.ref iD) h) x
end
theorem putD_put {D : Addr} {i : Nat} {y z : DV} {k : KH} {v u : V} {N : Hp → Prop} (e : putD h i y z k = some O) (rp : Rep T ρ F H h) (ea : ρ[i]? = some D) (ry : RV T ρ F H y v) (rz : RV T ρ F H z u)
    (f : ∀ h' H', k h' = some O → Rep T ρ F H' h' → Le ρ F H ρ F H' → N H') : tPut T D v u H N := by
  obtain ⟨mo, em, e1⟩ := nthK_some e
  obtain ⟨b, l, rfl, e2⟩ := mDic_some e1
  obtain ⟨b0, e3⟩ := bsel2_no e2
  subst b0
  obtain ⟨a', ea', _, o⟩ := rp.cells i _ em
  rw [ea] at ea'
  cases ea'
  obtain ⟨t, hc, hk, e4⟩ := keyK_some o e3
  rw [storeK_eq, List.reverse_nil, List.nil_append] at e4
  obtain ⟨hl, e5⟩ := lineD_some e4
  obtain ⟨_, e6⟩ := putK_some e5
  exact ⟨ρ, F, h, l, y, z, t, i, rp, em, ea, ry, rz, hc, hk, hl, fun ob r le => f _ _ e6 r le⟩
theorem dc_turns {J : It} {R : Nat → Src → Prop} {D : Addr} {src : Src} {vs : List Nat} {g : GCode} {t : TCode} {ck cv : Code} {s0 : SW.St} {kk : KH} {Fin : Hp → Prop} {iD : Nat} {ρ0 : List Addr} {F0 : Fz} {H0 : Hp}
    (at' : SrcAt T J ρ0 F0 H0 R) (R0 : R 0 src) (l0 : Le ρ0 F0 H0 ρ1 F1 H1) (rp : Rep T ρ1 F1 H1 h1) (ea : ρ1[iD]? = some D) (rs : RSl T ρ1 F1 H1 s0 (wipe σ vs)) (e : dcL g t ck cv iD 1000000 0 src s0 h1 kk = some O)
    (fin : ∀ ρ F H h, Le ρ1 F1 H1 ρ F H → Rep T ρ F H h → kk h = some O → Fin H) :
    ∃ W : Nat → Nat → Hp → Prop, (∃ m, W 0 m H1) ∧ ∀ i m H, W i m H →
      (J.stop i H ∧ Fin H) ∨ (J.go i H ∧ ∃ Nx : Hp → Prop, (∀ H', Nx H' → ∃ m', m' < m ∧ W (i + 1) m' H') ∧ ∀ x H', J.yld i H x H' → RdGv T vs g x (wipe σ vs) H' fun σ2 H2 => wipe σ2 vs = wipe σ vs ∧ RdT T W0 t σ2 H2 fun b H3 =>
        if b = true then RdE T W0 ck σ2 H3 fun y H4 => RdE T W0 cv σ2 H4 fun z H5 => tPut T D y z H5 Nx else Nx H3) := by
  refine ⟨fun i m H => ∃ (ρ : List Addr) (F : Fz) (h : CH) (c : Src), R i c ∧ Le ρ1 F1 H1 ρ F H ∧ Rep T ρ F H h ∧ dcL g t ck cv iD m i c s0 h kk = some O, ⟨1000000, ρ1, F1, h1, src, R0, .refl, rp, e⟩, fun i m H hw => ?_⟩
  obtain ⟨ρ2, F2, h2, c, Rc, l2, rp2, e3⟩ := hw
  cases m with
  | zero => cases e3
  | succ m =>
    have e3 : dcS g t ck cv iD (dcL g t ck cv iD m) i c s0 h2 kk = some O := e3
    unfold dcS at e3
    rcases at' i c ρ2 F2 H h2 O _ _ Rc (l0.trans l2) rp2 e3 with ⟨e4, st⟩ | ⟨gg, d, c', e4, Rc', yl⟩
    · exact .inl ⟨st, fin ρ2 F2 H h2 l2 rp2 e4⟩
    · rw [forceN_eq] at e4
      refine .inr ⟨gg, _, fun H' w => ⟨m, Nat.lt_succ_self m, w⟩, fun v H' y => ?_⟩
      obtain ⟨F', l', rp', rv'⟩ := yl v H' y
      refine ⟨O, ρ2, F', d, s0, h2, _, _, rp', rs.le (l2.trans l'), rv', e4, fun s3 h3 e5 ρ3 F3 H3 σ3 l3 r3 rs3 w3 => ⟨w3.trans wipe_wipe, ?_⟩⟩
      refine ⟨O, ρ3, F3, s3, h3, _, _, _, r3, rs3, e5, fun b h4 e6 ρ4 F4 H4 l4 r4 => ?_, PostX.no⟩
      have la := ((l2.trans l').trans l3).trans l4
      cases b with
      | true =>
        show if true = true then _ else _
        rw [if_pos rfl]
        refine ⟨O, ρ4, F4, s3, h4, _, _, r4, rs3.le l4, e6, fun y5 h5 e7 ρ5 F5 H5 v5 l5 r5 rv5 => ?_, PostX.no⟩
        refine ⟨O, ρ5, F5, s3, h5, _, _, r5, rs3.le (l4.trans l5), e7, fun z6 h6 e8 ρ6 F6 H6 v6 l6 r6 rv6 => ?_, PostX.no⟩
        have lb := (la.trans l5).trans l6
        exact putD_put e8 r6 (lb.at ea) (rv5.le l6) rv6 fun h7 H7 e9 r7 l7 => ⟨ρ6, F6, h7, c', Rc', lb.trans l7, r7, e9⟩
      | false =>
        show if false = true then _ else _
        rw [if_neg Bool.false_ne_true]
        exact ⟨ρ4, F4, h4, c', Rc', la, r4, e6⟩
/-- the new table is a cell -/
theorem newD_some {k : Nat → CH → A} (e : newD h k = some O) : k h.length (h ++ [.dic false []]) = some O := by
  unfold newD at e
  rw [lenK_eq, Nat.zero_add, appK_eq] at e
  exact e
theorem newD_rep {D : Addr} {ob : Obj} (rp : Rep T ρ F H h) (hD : H D = none) (eo : ob = { cls := .type "dict", data := .dict #[] }) (hs : (D == sysModules) = false) :
    Rep T (ρ ++ [D]) F (upd H D (obE D ob)) (h ++ [.dic false []]) ∧ Le ρ F H (ρ ++ [D]) F (upd H D (obE D ob)) ∧ (ρ ++ [D])[h.length]? = some D :=
  ⟨rp.cell hD (fun _ _ z => by cases z) ⟨fun z => (nomatch z), DOk.empty eo hs upd_same⟩, Le.cell hD, by rw [rp.len, List.getElem?_append_right (Nat.le_refl _), Nat.sub_self]; rfl⟩
theorem dc_of {ci : ICode} {vs : List Nat} {g : GCode} {t : TCode} {ck cv : Code} (hq : RdE T W (eDc ci vs g t ck cv) σ H Q) : tDcO (RdI T W ci) (RdGv T vs g) (RdT T W0 t) (RdE T W0 ck) (RdE T W0 cv) (tPut T) vs σ H Q := by
  obtain ⟨O, ρ, F, s, h, k, x, rp, rs, e, pk, px⟩ := hq
  refine ⟨O, ρ, F, s, h, _, x, rp, rs, e, fun src h1 e1 ρ1 F1 H1 J l1 r1 sr D ob hD eo hs => ?_, px⟩
  obtain ⟨s0, rs0, e2⟩ := wipeK_some e1 (rs.le l1)
  obtain ⟨R, R0, at'⟩ := sr.has
  obtain ⟨r2, l2, ea⟩ := newD_rep r1 hD eo hs
  exact dc_turns at' R0 l2 r2 ea (rs0.le l2) (newD_some e2) fun ρ3 F3 H3 h3 l3 r3 e3 => pk _ _ e3 ρ3 F3 H3 _ ((l1.trans l2).trans l3) r3 (.ref (l3.at ea))
theorem dc2_of {ci ci1 : ICode} {vs vs1 : List Nat} {g g1 : GCode} {t t1 : TCode} {ck cv : Code} (hq : RdE T W (eDc2 ci vs g t ci1 vs1 g1 t1 ck cv) σ H Q) :
    tDcO2 (RdI T W ci) (RdGv T vs g) (RdT T W0 t) (RdI T W0 ci1) (RdGv T vs1 g1) (RdT T W0 t1) (RdE T W0 ck) (RdE T W0 cv) (tPut T) vs vs1 σ H Q := by
  obtain ⟨O, ρ, F, s, h, k, x, rp, rs, e, pk, px⟩ := hq
  refine ⟨O, ρ, F, s, h, _, x, rp, rs, e, fun src h1 e1 ρ1 F1 H1 J l1 r1 sr D ob hD eo hs => ?_, px⟩
  obtain ⟨s0, rs0, e2⟩ := wipeK_some e1 (rs.le l1)
  obtain ⟨R, R0, at'⟩ := sr.has
  obtain ⟨r2, l2, ea⟩ := newD_rep r1 hD eo hs
  refine ⟨fun i m H => ∃ (ρ : List Addr) (F : Fz) (h : CH) (c : Src), R i c ∧ Le (ρ1 ++ [D]) F1 (upd H1 D (obE D ob)) ρ F H ∧ Rep T ρ F H h ∧ dc2L g t ci1 vs1 g1 t1 ck cv h1.length m i c s0 h (fun h => k (.ref h1.length) h) = some O,
    ⟨1000000, _, F1, _, src, R0, .refl, r2, newD_some e2⟩, fun i m H hw => ?_⟩
  obtain ⟨ρ2, F2, h2, c, Rc, l3, rp2, e3⟩ := hw
  cases m with
  | zero => cases e3
  | succ m =>
    have e3 : dc2S g t ci1 vs1 g1 t1 ck cv h1.length (dc2L g t ci1 vs1 g1 t1 ck cv h1.length m) i c s0 h2 (fun h => k (.ref h1.length) h) = some O := e3
    unfold dc2S at e3
    rcases at' i c ρ2 F2 H h2 O _ _ Rc (l2.trans l3) rp2 e3 with ⟨e4, st⟩ | ⟨gg, d, c', e4, Rc', yl⟩
    · exact .inl ⟨st, pk _ _ e4 ρ2 F2 H _ ((l1.trans l2).trans l3) rp2 (.ref (l3.at ea))⟩
    · rw [forceN_eq] at e4
      refine .inr ⟨gg, _, fun H' w => ⟨m, Nat.lt_succ_self m, w⟩, fun v H' y => ?_⟩
      obtain ⟨F', l', rp', rv'⟩ := yl v H' y
      refine ⟨O, ρ2, F', d, s0, h2, _, _, rp', rs0.le ((l2.trans l3).trans l'), rv', e4, fun s3 h3 e5 ρ3 F3 H3 σ3 l4 r3 rs3 w3 => ⟨w3.trans wipe_wipe, ?_⟩⟩
      refine ⟨O, ρ3, F3, s3, h3, _, _, _, r3, rs3, e5, fun b h4 e6 ρ4 F4 H4 l5 r4 => ?_, PostX.no⟩
      have la := ((l3.trans l').trans l4).trans l5
      cases b with
      | true =>
        show if true = true then _ else _
        rw [if_pos rfl]
        refine ⟨O, ρ4, F4, s3, h4, _, _, r4, rs3.le l5, e6, fun src1 h5 e7 ρ5 F5 H5 J1 l6 r5 sr1 => ?_, PostX.no⟩
        obtain ⟨s1, rs1, e8⟩ := wipeK_some e7 (rs3.le (l5.trans l6))
        obtain ⟨R1, R01, at1⟩ := sr1.has
        have lb := la.trans l6
        exact dc_turns at1 R01 .refl r5 (lb.at ea) rs1 e8 fun ρ7 F7 H7 h7 l7 r7 e9 => ⟨ρ7, F7, h7, c', Rc', lb.trans l7, r7, e9⟩
      | false =>
        show if false = true then _ else _
        rw [if_neg Bool.false_ne_true]
        exact ⟨ρ4, F4, h4, c', Rc', la, r4, e6⟩
section
variable {kx vx tg iter tg1 iter1 : Expr} {ifs ifs1 : List Expr} {scope : Scope} {own : List (Str × Nat)} {vs1 : List Nat} {pos : Pos} {ci ci1 : ICode} {g g1 : GCode} {t t1 : TCode} {ck cv : Code}
theorem snd_dc (hw : T.w = X.w) (hu : X.A.units + 10 < cLine) (hc : X.calm = true) (hN : X.N.Nodup) (hi : SndI T X W tg iter ci) (ok : BlkOk X.N X.env.scope scope own)
    (hg : ∀ (s : Shared) (H : Hp) (C : Addr) (cl : List (Str × Addr)) (fp : List Addr), SndGv T (X.blk s H scope (compEnvC scope cl C X.env) fp) (own.map (·.2)) tg g) (ht : ∀ (s : Shared) (H : Hp) (C : Addr) (cl : List (Str × Addr)) (fp : List Addr), SndTs T (X.blk s H scope (compEnvC scope cl C X.env) fp) W0 ifs t) (hk : ∀ (s : Shared) (H : Hp) (C : Addr) (cl : List (Str × Addr)) (fp : List Addr), Snd T (X.blk s H scope (compEnvC scope cl C X.env) fp) W0 kx ck) (he : ∀ (s : Shared) (H : Hp) (C : Addr) (cl : List (Str × Addr)) (fp : List Addr), Snd T (X.blk s H scope (compEnvC scope cl C X.env) fp) W0 vx cv) (hs : ∀ x, foldedSetIterable iter X.env x = pure x) :
    Snd T X W (.DictComp kx vx [⟨tg, iter, ifs, 0⟩] scope pos) (eDc ci (own.map (·.2)) g t ck cv) :=
  PE.imp (pe_dcO hc hN hi ok (fun D s H ce fp => put_ok (X := X.blk s H scope ce fp) hw hu) hg ht hk he hs) fun _ _ _ hq => dc_of hq
theorem snd_dc2 (hw : T.w = X.w) (hu : X.A.units + 10 < cLine) (hc : X.calm = true) (hN : X.N.Nodup) (hi : SndI T X W tg iter ci) (ok : BlkOk X.N X.env.scope scope own) (hv : ∀ i ∈ vs1, i ∈ own.map (·.2))
    (hg : ∀ (s : Shared) (H : Hp) (C : Addr) (cl : List (Str × Addr)) (fp : List Addr), SndGv T (X.blk s H scope (compEnvC scope cl C X.env) fp) (own.map (·.2)) tg g) (ht : ∀ (s : Shared) (H : Hp) (C : Addr) (cl : List (Str × Addr)) (fp : List Addr), SndTs T (X.blk s H scope (compEnvC scope cl C X.env) fp) W0 ifs t) (hk : ∀ (s : Shared) (H : Hp) (C : Addr) (cl : List (Str × Addr)) (fp : List Addr), Snd T (X.blk s H scope (compEnvC scope cl C X.env) fp) W0 kx ck) (he : ∀ (s : Shared) (H : Hp) (C : Addr) (cl : List (Str × Addr)) (fp : List Addr), Snd T (X.blk s H scope (compEnvC scope cl C X.env) fp) W0 vx cv) (hs : ∀ x, foldedSetIterable iter X.env x = pure x)
    (hi1 : ∀ (s : Shared) (H : Hp) (C : Addr) (cl : List (Str × Addr)) (fp : List Addr), SndI T (X.blk s H scope (compEnvC scope cl C X.env) fp) W0 tg1 iter1 ci1) (hg1 : ∀ (s : Shared) (H : Hp) (C : Addr) (cl : List (Str × Addr)) (fp : List Addr), SndGv T (X.blk s H scope (compEnvC scope cl C X.env) fp) vs1 tg1 g1) (ht1 : ∀ (s : Shared) (H : Hp) (C : Addr) (cl : List (Str × Addr)) (fp : List Addr), SndTs T (X.blk s H scope (compEnvC scope cl C X.env) fp) W0 ifs1 t1) (hs1 : ∀ env x, foldedSetIterable iter1 env x = pure x) :
    Snd T X W (.DictComp kx vx [⟨tg, iter, ifs, 0⟩, ⟨tg1, iter1, ifs1, 0⟩] scope pos) (eDc2 ci (own.map (·.2)) g t ci1 vs1 g1 t1 ck cv) :=
  PE.imp (pe_dcO2 hc hN hi ok hv (fun D s H ce fp => put_ok (X := X.blk s H scope ce fp) hw hu) hg ht hk he hs hi1 hg1 ht1 hs1) fun _ _ _ hq => dc2_of hq
end
end SW
end
section
/-! List comprehensions of two clauses. -/
namespace SW
open PySem PySem.Spec PyProof.Rows L2 SlX
variable {T : Tab} {O : Out} {ρ ρ1 ρ' : List Addr} {F F1 F' : Fz} {H H1 H' : Hp} {h h1 : CH} {s : SW.St} {σ : L2.St} {k : K} {x : KX} {Q : VK} {W : WX} {X : Cx} {E : XK}
/-- a list that no one changes any more -/
theorem Rep.bury {a : Addr} {i n : Nat} {l : List DV} (r : Rep T ρ F H h) (e : h[i]? = some (.lst n l)) (ea : ρ[i]? = some a) : Rep T ρ (fzA F a) H (h.set i .gone) ∧ Le ρ F H ρ (fzA F a) H := by
  have hm : a ∈ ρ := List.mem_of_getElem? ea
  have le : Le ρ F H ρ (fzA F a) H := Le.lock hm
  have hi : i < h.length := (List.getElem?_eq_some_iff.mp e).1
  refine ⟨⟨r.nod, r.trk, fun j x mo2 ex ej u => ?_, fun x f => ?_, fun j mo2 ej => ?_, by simp [r.len], fun j c l' ej => ?_⟩, le⟩
  · by_cases hj : i = j
    · subst hj
      rw [List.getElem?_set_self hi] at ej
      cases ej
      cases u
    · rw [List.getElem?_set_ne hj] at ej
      intro f
      rcases f with f | f
      · exact r.nf j x mo2 ex ej u f
      · exact hj (nodup_at r.nod ea (f ▸ ex))
  · rcases f with f | f
    · exact r.ft x f
    · rw [f]; exact r.trk a hm
  · by_cases hj : i = j
    · subst hj
      rw [List.getElem?_set_self hi] at ej
      cases ej
      exact ⟨a, ea, trivial⟩
    · rw [List.getElem?_set_ne hj] at ej
      obtain ⟨x, ex, m⟩ := r.cells j mo2 ej
      exact ⟨x, ex, m.move le (fun _ _ _ => rfl) (List.mem_of_getElem? ex)⟩
  · by_cases hj : i = j
    · subst hj
      rw [List.getElem?_set_self hi] at ej
      cases ej
    · rw [List.getElem?_set_ne hj] at ej
      have q := r.dd j c l' ej
      by_cases hk : i = j + 1
      · subst hk
        rw [e] at q
        cases q
      · rw [List.getElem?_set_ne hk]; exact q
noncomputable section
/-- the list at i, with one more -/
def moreL (h : CH) (i : Nat) (y : DV) (k : KH) : A := nthK h i fun mo => mLst mo fun n l => bsel (Nat.blt n 1000000) (appK l [y] fun l => forceN (Nat.succ n) fun n => putK h i (.lst n l) k) none
def lc1S (g : GCode) (t : TCode) (e : Code) (iD : Nat) (ih : Nat → Src → SW.St → CH → KH → A) (j : Nat) (c : Src) (s0 : SW.St) (h : CH) (k : KH) : A :=
  nxt c j h (k h) fun d c => forceN (Nat.succ j) fun j => g d s0 h (fun s h => t s h (fun h => e s h (fun y h => moreL h iD y fun h => ih j c s0 h k) noX) (fun h => ih j c s0 h k) noX) noXS
def lc1L (g : GCode) (t : TCode) (e : Code) (iD : Nat) (f : Nat) : Nat → Src → SW.St → CH → KH → A := @Nat.rec (fun _ => Nat → Src → SW.St → CH → KH → A) (fun _ _ _ _ _ => none) (fun _ ih => lc1S g t e iD ih) f
def newL (h : CH) (k : Nat → CH → A) : A := lenK h 0 fun n => appK h [.lst 0 []] fun h => k n h
def lc2S (g : GCode) (t : TCode) (i1 : ICode) (vs1 : List Nat) (g1 : GCode) (t1 : TCode) (e : Code) (iD : Nat) (ih : Nat → Src → SW.St → CH → KH → A) (j : Nat) (c : Src) (s0 : SW.St) (h : CH) (k : KH) : A :=
  nxt c j h (k h) fun d c => forceN (Nat.succ j) fun j => g d s0 h (fun s h => t s h (fun h => i1 s h (fun c1 h => wipeK vs1 s fun s1 => lc1L g1 t1 e iD 1000000 0 c1 s1 h fun h => ih j c s0 h k) noX) (fun h => ih j c s0 h k) noX) noXS
def lc2L (g : GCode) (t : TCode) (i1 : ICode) (vs1 : List Nat) (g1 : GCode) (t1 : TCode) (e : Code) (iD : Nat) (f : Nat) : Nat → Src → SW.St → CH → KH → A := @Nat.rec (fun _ => Nat → Src → SW.St → CH → KH → A) (fun _ _ _ _ _ => none) (fun _ ih => lc2S g t i1 vs1 g1 t1 e iD ih) f
/-- the list at i, as it stays -/
def endL (mk : Bool) (h : CH) (i : Nat) (k : K) : A := @Bool.rec (fun _ => A) (nthK h i fun mo => mLst mo fun _ l => nrs l (putK h i .gone fun h => k (.lst l) h)) (k (.ref i) h) mk
def eLc2 (mk : Bool) (i : ICode) (vs : List Nat) (g : GCode) (t : TCode) (i1 : ICode) (vs1 : List Nat) (g1 : GCode) (t1 : TCode) (e : Code) : Code := fun s h k x => i s h (fun c h => wipeK vs s fun s0 => newL h fun iD h => lc2L g t i1 vs1 g1 t1 e iD 1000000 0 c s0 h fun h => endL mk h iD k) x
end
theorem moreL_add {D : Addr} {i : Nat} {y : DV} {k : KH} {v : V} {N : Hp → Prop} (e : moreL h i y k = some O) (rp : Rep T ρ F H h) (ea : ρ[i]? = some D) (ry : RV T ρ F H y v)
    (f : ∀ h' H', k h' = some O → Rep T ρ F H' h' → Le ρ F H ρ F H' → N H') : ∃ acc, H D = some (.lst acc) ∧ acc.length < sizeLine ∧ N (upd H D (.lst (acc ++ [v]))) := by
  obtain ⟨mo, em, e1⟩ := nthK_some e
  obtain ⟨n, l, rfl, e2⟩ := mLst_some e1
  obtain ⟨b, e3⟩ := bsel_some e2
  have hn : n < 1000000 := Nat.le_of_ble_eq_true b
  rw [appK_eq, forceN_eq] at e3
  obtain ⟨_, e4⟩ := putK_some e3
  obtain ⟨a', ea', b1, b2, vs, e7, q⟩ := rp.cells i _ em
  rw [ea] at ea'
  cases ea'
  obtain ⟨rp2, l2⟩ := cell_put (l' := l ++ [y]) (n' := n + 1) (vs' := vs ++ [v]) rp em ea (by rw [List.length_append]; show l.length + 1 ≤ n + 1; omega) hn (q.app (.cons ry .nil))
  refine ⟨vs, e7, ?_, f _ _ e4 rp2 l2⟩
  rw [← q.len]
  exact Nat.lt_of_lt_of_le (show l.length < 1000000 by omega) (line_of (Nat.le_refl _))
theorem newL_some {k : Nat → CH → A} (e : newL h k = some O) : k h.length (h ++ [.lst 0 []]) = some O := by
  unfold newL at e
  rw [lenK_eq, Nat.zero_add, appK_eq] at e
  exact e
theorem newL_rep {D : Addr} (rp : Rep T ρ F H h) (hD : H D = none) : Rep T (ρ ++ [D]) F (upd H D (.lst [])) (h ++ [.lst 0 []]) ∧ Le ρ F H (ρ ++ [D]) F (upd H D (.lst [])) ∧ (ρ ++ [D])[h.length]? = some D :=
  ⟨rp.cell hD (fun _ _ z => by cases z) ⟨Nat.le_refl _, Nat.zero_le _, [], upd_same, .nil⟩, Le.cell hD, by rw [rp.len, List.getElem?_append_right (Nat.le_refl _), Nat.sub_self]; rfl⟩
theorem endL_ok {mk : Bool} {D : Addr} {i : Nat} (e : endL mk h i k = some O) (rp : Rep T ρ F H h) (ea : ρ[i]? = some D) (pk : PostK T O ρ F H k Q) : Q (.ref D) H := by
  cases mk with
  | true => exact pk _ _ (show k (.ref i) h = some O from e) ρ F H _ .refl rp (.ref ea)
  | false =>
    obtain ⟨mo, em, e1⟩ := nthK_some (show nthK h i (fun mo => mLst mo fun _ l => nrs l (putK h i .gone fun h => k (.lst l) h)) = some O from e)
    obtain ⟨n, l, rfl, e2⟩ := mLst_some e1
    obtain ⟨n1, e3⟩ := nrs_some e2
    obtain ⟨_, e4⟩ := putK_some e3
    obtain ⟨a', ea', b1, b2, vs, e7, q⟩ := rp.cells i _ em
    rw [ea] at ea'
    cases ea'
    obtain ⟨rp2, l2⟩ := rp.bury em ea
    exact pk _ _ e4 ρ (fzA F D) H (.ref D) l2 rp2 (.imm (.lst fzA_self e7 ((q.imm n1).mono (fun _ _ _ e => e) fun _ f => .inl f) (Nat.le_trans b1 b2)))
theorem lc1_turns {J : It} {R : Nat → Src → Prop} {D : Addr} {src : Src} {vs : List Nat} {g : GCode} {t : TCode} {ce : Code} {s0 : SW.St} {kk : KH} {Fin : Hp → Prop} {iD : Nat} {ρ0 : List Addr} {F0 : Fz} {H0 : Hp}
    (at' : SrcAt T J ρ0 F0 H0 R) (R0 : R 0 src) (l0 : Le ρ0 F0 H0 ρ1 F1 H1) (rp : Rep T ρ1 F1 H1 h1) (ea : ρ1[iD]? = some D) (rs : RSl T ρ1 F1 H1 s0 (wipe σ vs)) (e : lc1L g t ce iD 1000000 0 src s0 h1 kk = some O)
    (fin : ∀ ρ F H h, Le ρ1 F1 H1 ρ F H → Rep T ρ F H h → kk h = some O → Fin H) :
    ∃ W : Nat → Nat → Hp → Prop, (∃ m, W 0 m H1) ∧ ∀ i m H, W i m H →
      (J.stop i H ∧ Fin H) ∨ (J.go i H ∧ ∃ Nx : Hp → Prop, (∀ H', Nx H' → ∃ m', m' < m ∧ W (i + 1) m' H') ∧ ∀ x H', J.yld i H x H' → RdGv T vs g x (wipe σ vs) H' fun σ2 H2 => wipe σ2 vs = wipe σ vs ∧ RdT T W0 t σ2 H2 fun b H3 =>
        if b = true then RdE T W0 ce σ2 H3 fun y H4 => ∃ acc, H4 D = some (.lst acc) ∧ acc.length < sizeLine ∧ Nx (upd H4 D (.lst (acc ++ [y]))) else Nx H3) := by
  refine ⟨fun i m H => ∃ (ρ : List Addr) (F : Fz) (h : CH) (c : Src), R i c ∧ Le ρ1 F1 H1 ρ F H ∧ Rep T ρ F H h ∧ lc1L g t ce iD m i c s0 h kk = some O, ⟨1000000, ρ1, F1, h1, src, R0, .refl, rp, e⟩, fun i m H hw => ?_⟩
  obtain ⟨ρ2, F2, h2, c, Rc, l2, rp2, e3⟩ := hw
  cases m with
  | zero => cases e3
  | succ m =>
    have e3 : lc1S g t ce iD (lc1L g t ce iD m) i c s0 h2 kk = some O := e3
    unfold lc1S at e3
    rcases at' i c ρ2 F2 H h2 O _ _ Rc (l0.trans l2) rp2 e3 with ⟨e4, st⟩ | ⟨gg, d, c', e4, Rc', yl⟩
    · exact .inl ⟨st, fin ρ2 F2 H h2 l2 rp2 e4⟩
    · rw [forceN_eq] at e4
      refine .inr ⟨gg, _, fun H' w => ⟨m, Nat.lt_succ_self m, w⟩, fun v H' y => ?_⟩
      obtain ⟨F', l', rp', rv'⟩ := yl v H' y
      refine ⟨O, ρ2, F', d, s0, h2, _, _, rp', rs.le (l2.trans l'), rv', e4, fun s3 h3 e5 ρ3 F3 H3 σ3 l3 r3 rs3 w3 => ⟨w3.trans wipe_wipe, ?_⟩⟩
      refine ⟨O, ρ3, F3, s3, h3, _, _, _, r3, rs3, e5, fun b h4 e6 ρ4 F4 H4 l4 r4 => ?_, PostX.no⟩
      have la := ((l2.trans l').trans l3).trans l4
      cases b with
      | true =>
        show if true = true then _ else _
        rw [if_pos rfl]
        refine ⟨O, ρ4, F4, s3, h4, _, _, r4, rs3.le l4, e6, fun y5 h5 e7 ρ5 F5 H5 v5 l5 r5 rv5 => ?_, PostX.no⟩
        have lb := la.trans l5
        exact moreL_add (N := fun H => ∃ (ρ : List Addr) (F : Fz) (h : CH) (c : Src), R (i + 1) c ∧ Le ρ1 F1 H1 ρ F H ∧ Rep T ρ F H h ∧ lc1L g t ce iD m (i + 1) c s0 h kk = some O) e7 r5 (lb.at ea) rv5 fun h7 H7 e9 r7 l7 => ⟨ρ5, F5, h7, c', Rc', lb.trans l7, r7, e9⟩
      | false =>
        show if false = true then _ else _
        rw [if_neg Bool.false_ne_true]
        exact ⟨ρ4, F4, h4, c', Rc', la, r4, e6⟩
theorem lc2_of {mk : Bool} {ci ci1 : ICode} {vs vs1 : List Nat} {g g1 : GCode} {t t1 : TCode} {ce : Code} (hq : RdE T W (eLc2 mk ci vs g t ci1 vs1 g1 t1 ce) σ H Q) :
    tLc2 (RdI T W ci) (RdGv T vs g) (RdT T W0 t) (RdI T W0 ci1) (RdGv T vs1 g1) (RdT T W0 t1) (RdE T W0 ce) vs vs1 σ H Q := by
  obtain ⟨O, ρ, F, s, h, k, x, rp, rs, e, pk, px⟩ := hq
  refine ⟨O, ρ, F, s, h, _, x, rp, rs, e, fun src h1 e1 ρ1 F1 H1 J l1 r1 sr D hD => ?_, px⟩
  obtain ⟨s0, rs0, e2⟩ := wipeK_some e1 (rs.le l1)
  obtain ⟨R, R0, at'⟩ := sr.has
  obtain ⟨r2, l2, ea⟩ := newL_rep r1 hD
  refine ⟨fun i m H => ∃ (ρ : List Addr) (F : Fz) (h : CH) (c : Src), R i c ∧ Le (ρ1 ++ [D]) F1 (upd H1 D (.lst [])) ρ F H ∧ Rep T ρ F H h ∧ lc2L g t ci1 vs1 g1 t1 ce h1.length m i c s0 h (fun h => endL mk h h1.length k) = some O,
    ⟨1000000, _, F1, _, src, R0, .refl, r2, newL_some e2⟩, fun i m H hw => ?_⟩
  obtain ⟨ρ2, F2, h2, c, Rc, l3, rp2, e3⟩ := hw
  cases m with
  | zero => cases e3
  | succ m =>
    have e3 : lc2S g t ci1 vs1 g1 t1 ce h1.length (lc2L g t ci1 vs1 g1 t1 ce h1.length m) i c s0 h2 (fun h => endL mk h h1.length k) = some O := e3
    unfold lc2S at e3
    rcases at' i c ρ2 F2 H h2 O _ _ Rc (l2.trans l3) rp2 e3 with ⟨e4, st⟩ | ⟨gg, d, c', e4, Rc', yl⟩
    · exact .inl ⟨st, endL_ok e4 rp2 (l3.at ea) (pk.le ((l1.trans l2).trans l3))⟩
    · rw [forceN_eq] at e4
      refine .inr ⟨gg, _, fun H' w => ⟨m, Nat.lt_succ_self m, w⟩, fun v H' y => ?_⟩
      obtain ⟨F', l', rp', rv'⟩ := yl v H' y
      refine ⟨O, ρ2, F', d, s0, h2, _, _, rp', rs0.le ((l2.trans l3).trans l'), rv', e4, fun s3 h3 e5 ρ3 F3 H3 σ3 l4 r3 rs3 w3 => ⟨w3.trans wipe_wipe, ?_⟩⟩
      refine ⟨O, ρ3, F3, s3, h3, _, _, _, r3, rs3, e5, fun b h4 e6 ρ4 F4 H4 l5 r4 => ?_, PostX.no⟩
      have la := ((l3.trans l').trans l4).trans l5
      cases b with
      | true =>
        show if true = true then _ else _
        rw [if_pos rfl]
        refine ⟨O, ρ4, F4, s3, h4, _, _, r4, rs3.le l5, e6, fun src1 h5 e7 ρ5 F5 H5 J1 l6 r5 sr1 => ?_, PostX.no⟩
        obtain ⟨s1, rs1, e8⟩ := wipeK_some e7 (rs3.le (l5.trans l6))
        obtain ⟨R1, R01, at1⟩ := sr1.has
        have lb := la.trans l6
        exact lc1_turns at1 R01 .refl r5 (lb.at ea) rs1 e8 fun ρ7 F7 H7 h7 l7 r7 e9 => ⟨ρ7, F7, h7, c', Rc', lb.trans l7, r7, e9⟩
      | false =>
        show if false = true then _ else _
        rw [if_neg Bool.false_ne_true]
        exact ⟨ρ4, F4, h4, c', Rc', la, r4, e6⟩
section
variable {elt tg iter tg1 iter1 : Expr} {ifs ifs1 : List Expr} {scope : Scope} {own : List (Str × Nat)} {vs1 : List Nat} {pos spos : Pos} {mk : Bool} {ci ci1 : ICode} {g g1 : GCode} {t t1 : TCode} {ce : Code}
theorem snd_lc2 (hc : X.calm = true) (hN : X.N.Nodup) (hi : SndI T X W tg iter ci) (ok : BlkOk X.N X.env.scope scope own) (hv : ∀ i ∈ vs1, i ∈ own.map (·.2))
    (hg : ∀ (s : Shared) (H : Hp) (C : Addr) (cl : List (Str × Addr)) (fp : List Addr), SndGv T (X.blk s H scope (compEnvC scope cl C X.env) fp) (own.map (·.2)) tg g) (ht : ∀ (s : Shared) (H : Hp) (C : Addr) (cl : List (Str × Addr)) (fp : List Addr), SndTs T (X.blk s H scope (compEnvC scope cl C X.env) fp) W0 ifs t) (he : ∀ (s : Shared) (H : Hp) (C : Addr) (cl : List (Str × Addr)) (fp : List Addr), Snd T (X.blk s H scope (compEnvC scope cl C X.env) fp) W0 elt ce) (hs : ∀ x, foldedSetIterable iter X.env x = pure x)
    (hi1 : ∀ (s : Shared) (H : Hp) (C : Addr) (cl : List (Str × Addr)) (fp : List Addr), SndI T (X.blk s H scope (compEnvC scope cl C X.env) fp) W0 tg1 iter1 ci1) (hg1 : ∀ (s : Shared) (H : Hp) (C : Addr) (cl : List (Str × Addr)) (fp : List Addr), SndGv T (X.blk s H scope (compEnvC scope cl C X.env) fp) vs1 tg1 g1) (ht1 : ∀ (s : Shared) (H : Hp) (C : Addr) (cl : List (Str × Addr)) (fp : List Addr), SndTs T (X.blk s H scope (compEnvC scope cl C X.env) fp) W0 ifs1 t1) (hs1 : ∀ env x, foldedSetIterable iter1 env x = pure x) :
    Snd T X W (.ListComp elt [⟨tg, iter, ifs, 0⟩, ⟨tg1, iter1, ifs1, 0⟩] scope pos) (eLc2 mk ci (own.map (·.2)) g t ci1 vs1 g1 t1 ce) :=
  PE.imp (pe_lc2 hc hN hi ok hv hg ht hi1 hg1 ht1 he hs hs1) fun _ _ _ hq => lc2_of hq
theorem snds_setLc2 {i : Nat} {y : Str} {py : Pos} (hc : X.calm = true) (hN : X.N.Nodup) (hy : X.N[i]? = some y) (hyl : X.env.scope.names.lookup y = some .local)
    (hsw : swapsWith (.ListComp elt [⟨tg, iter, ifs, 0⟩, ⟨tg1, iter1, ifs1, 0⟩] scope pos) (some (.Name y py)) spos.line X.env = pure true) (hi : SndI T X W tg iter ci) (ok : BlkOk X.N X.env.scope scope own) (hv : ∀ i ∈ vs1, i ∈ own.map (·.2))
    (hg : ∀ (s : Shared) (H : Hp) (C : Addr) (cl : List (Str × Addr)) (fp : List Addr), SndGv T (X.blk s H scope (compEnvC scope cl C X.env) fp) (own.map (·.2)) tg g) (ht : ∀ (s : Shared) (H : Hp) (C : Addr) (cl : List (Str × Addr)) (fp : List Addr), SndTs T (X.blk s H scope (compEnvC scope cl C X.env) fp) W0 ifs t) (he : ∀ (s : Shared) (H : Hp) (C : Addr) (cl : List (Str × Addr)) (fp : List Addr), Snd T (X.blk s H scope (compEnvC scope cl C X.env) fp) W0 elt ce) (hs : ∀ x, foldedSetIterable iter X.env x = pure x)
    (hi1 : ∀ (s : Shared) (H : Hp) (C : Addr) (cl : List (Str × Addr)) (fp : List Addr), SndI T (X.blk s H scope (compEnvC scope cl C X.env) fp) W0 tg1 iter1 ci1) (hg1 : ∀ (s : Shared) (H : Hp) (C : Addr) (cl : List (Str × Addr)) (fp : List Addr), SndGv T (X.blk s H scope (compEnvC scope cl C X.env) fp) vs1 tg1 g1) (ht1 : ∀ (s : Shared) (H : Hp) (C : Addr) (cl : List (Str × Addr)) (fp : List Addr), SndTs T (X.blk s H scope (compEnvC scope cl C X.env) fp) W0 ifs1 t1) (hs1 : ∀ env x, foldedSetIterable iter1 env x = pure x) :
    SndS T X W (.Assign [.Name y py] (.ListComp elt [⟨tg, iter, ifs, 0⟩, ⟨tg1, iter1, ifs1, 0⟩] scope pos) spos) (sAsg (eLc2 mk ci (own.map (·.2)) g t ci1 vs1 g1 t1 ce) (gVar i)) := by
  refine PS.imp (ps_setLc2 hc hN hy hyl hsw hi ok hv hg ht hi1 hg1 ht1 he hs hs1) fun D σ H hq => ?_
  obtain ⟨O, ρ, F, s, h, n, ks, rp, rs, e, p⟩ := hq
  refine lc2_of (RdE.sq rp rs p e fun d h1 ρ1 F1 H1 v e1 r1 rv rs1 p1 => ?_)
  obtain ⟨_, e2⟩ := putK_some e1
  exact p1.nx _ h1 e2 ρ1 F1 H1 _ .refl r1 (rs1.set rv)
end
end SW
end
section
/-! Starred items of displays. -/
namespace SW
open PySem PySem.Spec PyProof.Rows L2 SlX
variable {T : Tab} {O : Out} {ρ ρ1 ρ' : List Addr} {F F1 F' : Fz} {H H1 H' : Hp} {h h1 : CH} {s : SW.St} {σ : L2.St} {k : K} {x : KX} {Q : VK} {W : WX} {X : Cx} {E : XK}
def SndAv (T : Tab) (X : Cx) (W : WX) (es : List Expr) (c : LCode) : Prop := PA X es (RdA T W (fun _ => True) c)
noncomputable section
def aStar (c : Code) (r : LCode) : LCode := fun s h k x => c s h (fun d h => dSeqI d h fun l => r s h (fun ds h => appK l ds fun ds => k ds h) x) x
def oTupV : OpL := fun ds h k => lenBelow ds (nrs ds (k (.tup ds) h))
def oLstV (mk : Bool) : OpL := fun ds h k => lenBelow ds (mkL mk ds h k)
end
theorem sndav_nil : SndAv T X W [] aNil := by
  refine PA.imp pa_nil fun σ H Q hq => ?_
  obtain ⟨O, ρ, F, s, h, k, x, rp, rs, e, pk, px⟩ := hq
  exact pk [] h trivial e ρ F H [] .refl rp .nil
section
variable {e : Expr} {es : List Expr} {c : Code} {r : LCode} {p pos : Pos} {n : Nat} {a : LCode} {mk : Bool}
theorem sndav_cons (he : Snd T X W e c) (hr : SndAv T X W es r) (hs : starEach (e :: es) X.env = (false, eval e X.env) :: starEach es X.env) : SndAv T X W (e :: es) (aCons c r) := by
  refine PA.imp (pa_cons he hr hs) fun σ H Q hq => ?_
  obtain ⟨O, ρ, F, s, h, k, x, rp, rs, e, pk, px⟩ := hq
  refine RdE.seq rp rs e px fun u h1 ρ1 F1 H1 u' e1 l1 r1 ru rs1 px1 => ?_
  exact ⟨O, ρ1, F1, s, h1, _, x, r1, rs1, e1, fun ds h' hn e2 ρ2 F2 H2 vs l2 r2 rvs => pk (u :: ds) h' trivial e2 ρ2 F2 H2 _ (l1.trans l2) r2 (.cons (ru.le l2) rvs), px1⟩
theorem sndav_star (he : Snd T X W e c) (hr : SndAv T X W es r) (hs : starEach (.Starred e p :: es) X.env = (true, eval e X.env) :: starEach es X.env) : SndAv T X W (.Starred e p :: es) (aStar c r) := by
  refine PA.imp (StX.pa_star he hr hs) fun σ H Q hq => ?_
  obtain ⟨O, ρ, F, s, h, k, x, rp, rs, e, pk, px⟩ := hq
  refine RdE.seq rp rs e px fun u h1 ρ1 F1 H1 u' e1 l1 r1 ru rs1 px1 => ?_
  obtain ⟨l, a, vs, ev, e2, hn, rv, hq⟩ := dSeqI_some e1 r1 ru
  refine ⟨a, vs, ev, ?_, O, ρ1, F1, s, h1, _, x, r1, rs1, e2, fun ds h' _ e3 ρ2 F2 H2 us l2 r2 rvs => ?_, px1⟩
  · rcases hq with ⟨_, _, e3, _⟩ | e3
    · exact .inl (.inl (.inl e3))
    · exact .inr (.inl (.inl e3))
  · have e3 : appK l ds (fun ds => k ds h') = some O := e3
    rw [appK_eq] at e3
    exact pk _ h' trivial e3 ρ2 F2 H2 _ (l1.trans l2) r2 ((RVl.le l2 rv).app rvs)
theorem snd_tupV (ha : SndAv T X W es a) : Snd T X W (.Tuple es n pos) (eL oTupV a) := by
  refine PE.imp (pe_tup ha) fun σ H Q hq => ?_
  obtain ⟨O, ρ, F, s, h, k, x, rp, rs, e, pk, px⟩ := hq
  refine ⟨O, ρ, F, s, h, _, x, rp, rs, e, fun ds h' _ e1 ρ1 F1 H1 vs l1 r1 rv => ?_, px⟩
  obtain ⟨hn, e2⟩ := lenBelow_some e1
  obtain ⟨n1, e3⟩ := nrs_some e2
  exact ⟨by rw [← rv.len]; exact line_of hn, post_tup r1 hn (rv.imm n1) e3 (pk.le l1)⟩
theorem snd_lstV (ha : SndAv T X W es a) : Snd T X W (.List es pos) (eL (oLstV mk) a) := by
  refine PE.imp (pe_lst ha) fun σ H Q hq => ?_
  obtain ⟨O, ρ, F, s, h, k, x, rp, rs, e, pk, px⟩ := hq
  refine ⟨O, ρ, F, s, h, _, x, rp, rs, e, fun ds h' _ e1 ρ1 F1 H1 vs l1 r1 rv => ?_, px⟩
  obtain ⟨hn, e2⟩ := lenBelow_some e1
  exact ⟨by rw [← rv.len]; exact line_of hn, post_mk r1 hn rv e2 (pk.le l1)⟩
end
end SW
end
section
/-! Stores in place, lists that no one changes any more, a display taken apart at once. -/
namespace SW
open PySem PySem.Spec PyProof.Rows L2 SlX
variable {T : Tab} {O : Out} {ρ ρ1 ρ' : List Addr} {F F1 F' : Fz} {H H1 H' : Hp} {h h1 : CH} {s : SW.St} {σ : L2.St} {k : K} {x : KX} {Q : VK} {W : WX} {X : Cx} {E : XK}
noncomputable section
def oIAdd : Op2 := opBy addI addS badL badL badR
def oIMul : Op2 := opBy mulI badS badL badL badR
end
theorem or_iadd : OpR X (inplaceOp .Add) (RdO T oIAdd) := by
  intro pins st σ H x y v u Q I rx ry hq
  obtain ⟨O, ρ, F, d, e, h, k, rp, rd, re, eq, pk⟩ := hq
  cases d with
  | int i =>
    obtain ⟨j, ej, e1⟩ := dInt_some (show dInt e _ = some O from eq)
    subst ej
    refine iop_add pins st σ H x y v u Q I rx ry ⟨i, j, rd.int_inv, re.int_inv, pk.now rp (kI_some e1) ?_⟩
    rw [iAdd_eq]
    exact .int _
  | str a =>
    obtain ⟨b, eb, e1⟩ := dStr_some (show dStr e _ = some O from eq)
    subst eb
    rw [appK_eq] at e1
    obtain ⟨n3, e1⟩ := lenBelow_some e1
    obtain ⟨ex, oa⟩ := rd.str_inv
    obtain ⟨ey, ob⟩ := re.str_inv
    refine iop_add_str pins st σ H x y v u Q I rx ry ⟨tx a, tx b, ex, ey, ?_, ?_⟩
    · rw [tx_len, tx_len]; exact mx2_line oa.1 ob.1
    · rw [tx_app]
      exact pk.now rp e1 (.str (oa.app ob n3))
  | _ => cases eq
theorem or_isub : OpR X (inplaceOp .Sub) (RdO T oSub) := or_int (fI := subI) (rI0_imp iop_sub) (fun {O i j h k} e => ⟨trivial, _, kI_some e, by rw [iSub_eq]; exact .int _⟩) dI
theorem or_imod : OpR X (inplaceOp .Mod) (RdO T oMod) := or_int (fI := modI) iop_mod (fun {O i j h k} e => by
  obtain ⟨e1, e⟩ := bsel_some (show bsel _ _ _ = some O from e)
  rw [iLt_eq] at e1
  refine ⟨of_decide_eq_true e1, _, kI_some e, ?_⟩
  rw [iMod_eq]
  exact .int _) dI
/-! ### a list that no one changes any more -/
noncomputable section
def frzK (d : DV) (h : CH) (k : K) : A := @DV.rec (fun _ => A) (fun _ => Unit) (k .non h) (fun b => k (.bl b) h) (fun i => k (.int i) h) (fun s => k (.str s) h) (fun l _ => k (.tup l) h) (fun l _ => k (.lst l) h) (fun c l _ => k (.ins c l) h) (fun a b => k (.rng a b) h)
  (fun i => nthK h i fun mo => @MO.rec (fun _ => A) (fun _ _ => endL false h i k) (fun _ _ => k (.ref i) h) (fun _ _ => k (.ref i) h) (k (.ref i) h) (k (.ref i) h) (k (.ref i) h) mo) () (fun _ _ _ _ => ()) d
def eFrz (c : Code) : Code := fun s h k x => c s h (fun d h => frzK d h k) x
end
theorem frz_ok {d : DV} {v : V} (rp : Rep T ρ F H h) (r : RV T ρ F H d v) (e : frzK d h k = some O) (pk : PostK T O ρ F H k Q) : Q v H := by
  cases d with
  | ref i =>
    obtain ⟨mo, em, e1⟩ := nthK_some (show nthK h i (fun mo => @MO.rec (fun _ => A) (fun _ _ => endL false h i k) (fun _ _ => k (.ref i) h) (fun _ _ => k (.ref i) h) (k (.ref i) h) (k (.ref i) h) (k (.ref i) h) mo) = some O from e)
    obtain ⟨a, ev, ea⟩ := r.ref_inv
    cases mo with
    | lst n l => subst ev; exact endL_ok (show endL false h i k = some O from e1) rp ea pk
    | _ => exact pk _ h e1 ρ F H v .refl rp r
  | _ => exact pk _ h e ρ F H v .refl rp r
theorem snd_frz {e : Expr} {c : Code} (he : Snd T X W e c) : Snd T X W e (eFrz c) := by
  refine PE.imp he fun σ H Q hq => ?_
  obtain ⟨O, ρ, F, s, h, k, x, rp, rs, e, pk, px⟩ := hq
  exact RdE.seq rp rs e px fun u h1 ρ1 F1 H1 u' e1 l1 r1 ru rs1 px1 => frz_ok r1 ru e1 (pk.le l1)
/-! ### a display taken apart at once -/
noncomputable section
def sUnp (a : LCode) (g : GsCode) : SCode := fun s h n ks => a s h (fun ds h => g ds s h n ks.xc) (ks.xc s)
end
theorem snds_unp {tgs es : List Expr} {kt k2 m : Nat} {pt p2 pos : Pos} {a : LCode} {g : GsCode} (hc : X.calm = true) (ha : SndA T X W es a) (hg : SndGs T X W tgs g) (hl : es.length ≤ mx) (hm : es.length = m)
    (hn : (assignEach tgs X.env).length = m) (hst : (assignEach tgs X.env).findIdx? (·.1) = none)
    (hs : swapsWithSole [.Tuple tgs kt pt] (.Tuple es k2 p2) pos.line X.env = pure false) (hw : swappedStores [.Tuple tgs kt pt] (.Tuple es k2 p2) X.env = pure none) (h1 : (assignEach [.Tuple tgs kt pt] X.env).map (·.2) = [assign (.Tuple tgs kt pt) X.env]) :
    SndS T X W (.Assign [.Tuple tgs kt pt] (.Tuple es k2 p2) pos) (sUnp a g) := by
  refine PS.imp (ps_asg (pe_tup ha) (pg_tup hc hg hn hst) hs hw h1) fun D σ H hq => ?_
  obtain ⟨O, ρ, F, s, h, n, ks, rp, rs, e, p⟩ := hq
  refine ⟨O, ρ, F, s, h, _, _, rp, rs, e, fun ds h1 hl1 e1 ρ1 F1 H1 vs l1 r1 rvs => ⟨?_, fun q hq => ?_⟩, p.px rs⟩
  · rw [← rvs.len]; exact line_of (Nat.le_trans (Nat.le_of_eq hl1) hl)
  · have l2 : Le ρ1 F1 H1 ρ1 (fzA F1 q) (upd H1 q (.tup vs)) := Le.new hq
    have pl := p.le (l1.trans l2)
    exact ⟨q, vs, rfl, .inl (.inl upd_same), by rw [← rvs.len, hl1, hm], O, ρ1, fzA F1 q, ds, s, h1, n, ks.xc, r1.new hq, rs.le (l1.trans l2), rvs.le l2, e1, pl.nx, pl.xc⟩
end SW
end
section
/-! Ints that are not known: from .. to, or by a rest. -/
namespace SW
open PySem PySem.Spec PyProof.Rows L2 SlX
variable {T : Tab} {O : Out} {ρ ρ1 ρ' : List Addr} {F F1 F' : Fz} {H H1 H' : Hp} {h h1 : CH} {s : SW.St} {σ : L2.St} {k : K} {x : KX} {Q : VK} {W : WX} {X : Cx} {E : XK}
noncomputable section
def isTd (d : DV) : Bool := @DV.rec (fun _ => Bool) (fun _ => Unit) false (fun b => b) (fun _ => false) (fun _ => false) (fun _ _ => false) (fun _ _ => false) (fun _ _ _ => false) (fun _ _ => false) (fun _ => false) () (fun _ _ _ _ => ()) d
/-- the answer: it returns True -/
def isT (o : A) : Bool := @Option.rec Out (fun _ => Bool) false (fun o => @Out.rec (fun _ => Bool) isTd (fun _ _ => false) o) o
def yesA : A := some (.ret (.bl true))
/-- two ways, both must answer True -/
def bothT (x y : A) : A := bsel (isT x) y none
def both2 (x y : A) : A := bsel (isT x) (bsel (isT y) yesA none) none
def dIR (d : DV) (f : Int → A) (g : Int → Int → A) : A := @DV.rec (fun _ => A) (fun _ => Unit) none (fun _ => none) f (fun _ => none) (fun _ _ => none) (fun _ _ => none) (fun _ _ _ => none) (fun lo hi => gOk lo hi (g lo hi)) (fun _ => none) () (fun _ _ _ _ => ()) d
def opByR (fI : Int → Op2r) (fS : List Nat → Op2r) (fT fL : List DV → Op2r) (fR : Nat → Op2r) (fG : Int → Int → Op2r) (d : DV) : Op2r :=
  @DV.rec (fun _ => Op2r) (fun _ => Unit) bad0 (fun _ => bad0) fI fS (fun l _ => fT l) (fun l _ => fL l) (fun _ _ _ => bad0) (fun lo hi e h k => gOk lo hi (fG lo hi e h k)) fR () (fun _ _ _ _ => ()) d
def kG (lo hi : Int) (h : CH) (k : K) : A := forceI lo fun lo => forceI hi fun hi => k (.rng lo hi) h
def kAny (h : CH) (k : K) : A := k (.rng (.negSucc 0) (.negSucc 0)) h
/-- another rest, not bounded -/
def kR (r hi : Int) (h : CH) (k : K) : A := bsel (iLt hi (.ofNat 0)) (kG (iSub (iMod r (iNeg hi)) (iNeg hi)) hi h k) none
def addIR : Int → Op2r := fun i e h k => dIR e (fun j => kI (iAdd i j) h k) fun lo hi => bsel (iLt lo hi) (kG (iAdd i lo) (iAdd i hi) h k) (kR (iAdd i lo) hi h k)
def subIR : Int → Op2r := fun i e h k => dIR e (fun j => kI (iSub i j) h k) fun lo hi => bsel (iLt lo hi) (kG (iAdd (iSub i hi) (.ofNat 1)) (iAdd (iSub i lo) (.ofNat 1)) h k) (kR (iSub i lo) hi h k)
def anyG : Int → Int → Op2r := fun _ _ e h k => dIR e (fun _ => kAny h k) fun _ _ => kAny h k
def oAddR (mk : Bool) : Op2 := opByR addIR addS addT (addL mk) (addR mk) anyG
def oSubR : Op2 := opByR subIR badS badL badL badR anyG
/-- within 2 ^ 64 -/
def smallM (i : Int) : Bool := @Bool.rec (fun _ => Bool) false (iLt i (.ofNat (Nat.pow 2 64))) (iLt (iNeg (.ofNat (Nat.pow 2 64))) i)
def mulIR : Int → Op2r := fun i e h k => dIR e (fun j => bsel (Nat.blt (Nat.add (bits i) (bits j)) 1000000) (kI (iMul i j) h k) none) fun _ _ => bsel (smallM i) (kAny h k) none
def mulG : Int → Int → Op2r := fun _ _ e h k => dIR e (fun j => bsel (smallM j) (kAny h k) none) fun lo hi => bsel (iLt lo hi) (bsel (smallM lo) (bsel (smallM hi) (kAny h k) none) none) none
def oMulR (mk : Bool) : Op2 := opByR mulIR mulS mulT (mulL mk) badR mulG
def divG : Int → Int → Op2r := fun _ _ e h k => dInt e fun j => bsel (iLt (.ofNat 0) j) (bsel (Nat.blt (bits j) 9000) (kAny h k) none) none
def oDivR : Op2 := opByR divI badS badL badL badR divG
def modG : Int → Int → Op2r := fun lo hi e h k => dInt e fun j => bsel (iLt (.ofNat 0) j) (bsel (iLt lo hi) (kG (.ofNat 0) j h k) (bsel (iEq (iMod (iNeg hi) j) (.ofNat 0)) (kI (iMod lo j) h k) (kG (.ofNat 0) j h k))) none
def oModR : Op2 := opByR modI badS badL badL badR modG
def tenP : Int := .ofNat (Nat.pow 10 50)
def kBoth (h : CH) (k : K) : A := both2 (k (.bl true) h) (k (.bl false) h)
/-- i < it, it < j -/
def ltJ (i lo hi : Int) (h : CH) (k : K) : A := bsel (iLt lo hi) (bsel (iLt i lo) (k (.bl true) h) (bsel (iLe hi (iAdd i (.ofNat 1))) (k (.bl false) h) (kBoth h k))) (bsel (iLe (.ofNat 0) lo) (bsel (iLe i (iNeg tenP)) (k (.bl true) h) (kBoth h k)) (kBoth h k))
def ltX (lo hi j : Int) (h : CH) (k : K) : A := bsel (iLt lo hi) (bsel (iLe hi j) (k (.bl true) h) (bsel (iLe j lo) (k (.bl false) h) (kBoth h k))) (bsel (iLe (.ofNat 0) lo) (bsel (iLe tenP j) (k (.bl true) h) (kBoth h k)) (kBoth h k))
def ltIR : Int → Op2r := fun i e h k => dIR e (fun j => kB (iLt i j) h k) fun lo hi => ltJ i lo hi h k
def ltGR : Int → Int → Op2r := fun lo hi e h k => dInt e fun j => ltX lo hi j h k
def gtIR : Int → Op2r := fun i e h k => dIR e (fun j => kB (iLt j i) h k) fun lo hi => ltX lo hi i h k
def gtGR : Int → Int → Op2r := fun lo hi e h k => dInt e fun j => ltJ j lo hi h k
def oLtR : Op2 := opByR ltIR (fun s e h k => cmpG (fun d e => ltD d e) (.str s) e h k) (fun l e h k => cmpG (fun d e => ltD d e) (.tup l) e h k) (fun l e h k => cmpG (fun d e => ltD d e) (.lst l) e h k) badR ltGR
def oGtR : Op2 := opByR gtIR (fun s e h k => cmpG (fun d e => ltD e d) (.str s) e h k) (fun l e h k => cmpG (fun d e => ltD e d) (.tup l) e h k) (fun l e h k => cmpG (fun d e => ltD e d) (.lst l) e h k) badR gtGR
def bl2 (d : DV) (h : CH) (k : K) (z : A) : A := @DV.rec (fun _ => A) (fun _ => Unit) z (fun b => k (.int (b2 b)) h) (fun _ => z) (fun _ => z) (fun _ _ => z) (fun _ _ => z) (fun _ _ _ => z) (fun _ _ => z) (fun _ => z) () (fun _ _ _ _ => ()) d
def oIntR : OpL := fun ds h k => arg1 ds fun d => bl2 d h k (dIR d (fun i => k (.int i) h) fun lo hi => k (.rng lo hi) h)
def oAbsR : OpL := fun ds h k => arg1 ds fun d => dIR d (fun i => bsel (iLt i (.ofNat 0)) (kI (iNeg i) h k) (k (.int i) h)) fun _ _ => kAny h k
def iMin (i j : Int) : Int := @Bool.rec (fun _ => Int) i j (iLt j i)
def iMax (i j : Int) : Int := @Bool.rec (fun _ => Int) i j (iLt i j)
def oMin2R : OpL := fun ds h k => arg2 ds fun d e => dInt d fun i => dIR e (fun j => bsel (iLt j i) (k (.int j) h) (k (.int i) h)) fun lo hi => bsel (iLt lo hi) (kG (iMin i lo) (iAdd (iMin i (iSub hi (.ofNat 1))) (.ofNat 1)) h k) (kAny h k)
def oMax2R : OpL := fun ds h k => arg2 ds fun d e => dInt d fun i => dIR e (fun j => bsel (iLt i j) (k (.int j) h) (k (.int i) h)) fun lo hi => bsel (iLt lo hi) (kG (iMax i lo) (iAdd (iMax i (iSub hi (.ofNat 1))) (.ofNat 1)) h k) (kAny h k)
def gcdG (lo hi j : Int) (h : CH) (k : K) : A := bsel (iLt (.ofNat 0) j) (bsel (iLe hi lo) (bsel (iEq (iMod (iNeg hi) j) (.ofNat 0)) (forceN (Nat.gcd (Int.natAbs (iMod lo j)) (Int.natAbs j)) fun n => k (.int (.ofNat n)) h) none) none) none
def oGcdR : OpL := fun ds h k => arg2 ds fun d e => dInt e fun j => dIR d (fun i => forceN (Nat.gcd (Int.natAbs i) (Int.natAbs j)) fun n => k (.int (.ofNat n)) h) fun lo hi => gcdG lo hi j h k
/-- the script, as a value -/
def isScr (d : DV) (x y : A) : A := @DV.rec (fun _ => A) (fun _ => Unit) y (fun _ => y) (fun _ => y) (fun _ => y) (fun _ _ => y) (fun _ _ => y) (fun _ _ _ => y) (fun lo hi => bsel (iEq lo (.ofNat 0)) (bsel (iEq hi (.ofNat 0)) x y) y) (fun _ => y) () (fun _ _ _ _ => ()) d
def oLenR : OpL := fun ds h k => arg1 ds fun d => isScr d (kG (.ofNat 0) (.ofNat 64) h k) (oLen ds h k)
/-- every value of such an int -/
def allT (n : Nat) (f : Nat → A) : A := @Nat.rec (fun _ => A) yesA (fun m ih => bothT (f m) ih) n
def splitK (d : DV) (h : CH) (k : K) : A := dIR d (fun i => k (.int i) h) fun lo hi => bsel (iLt lo hi) (allT (Int.toNat (iSub hi lo)) fun m => kI (iAdd lo (.ofNat m)) h k) none
def eSplit (c : Code) : Code := fun s h k x => c s h (fun d h => splitK d h k) x
end
theorem isT_some {o : A} (e : isT o = true) : o = yesA := by
  cases o with
  | none => cases e
  | some o => cases o with
    | exc c l => cases e
    | ret d => cases d with
      | bl b => cases b with
        | true => rfl
        | false => cases e
      | _ => cases e
theorem both2_some {x y : A} (e : both2 x y = some O) : x = some O ∧ y = some O := by
  obtain ⟨e1, e⟩ := bsel_some (show bsel _ _ _ = some O from e)
  obtain ⟨e2, e⟩ := bsel_some e
  exact ⟨(isT_some e1).trans e, (isT_some e2).trans e⟩
theorem kBoth_some (e : kBoth h k = some O) (b : Bool) : k (.bl b) h = some O := by
  obtain ⟨e1, e2⟩ := both2_some e
  cases b with
  | true => exact e1
  | false => exact e2
theorem dIR_some {d : DV} {f : Int → A} {g : Int → Int → A} (e : dIR d f g = some O) : (∃ i, d = .int i ∧ f i = some O) ∨ ∃ lo hi, d = .rng lo hi ∧ (lo < hi ∨ hi < 0) ∧ g lo hi = some O := by
  cases d with
  | int i => exact .inl ⟨i, rfl, e⟩
  | rng lo hi =>
    obtain ⟨n, e⟩ := gOk_some (show gOk lo hi _ = some O from e)
    exact .inr ⟨lo, hi, rfl, n, e⟩
  | _ => cases e
theorem rngP_any (i : Int) : rngP (.negSucc 0) (.negSucc 0) i := .inr ⟨Int.le_refl _, by decide, by rw [show -(Int.negSucc 0) = 1 from rfl, Int.emod_one, Int.emod_one], fun z => absurd z (by decide)⟩
theorem kAny_some {i : Int} (rp : Rep T ρ F H h) (e : kAny h k = some O) (pk : PostK T O ρ F H k Q) : Q (.int i) H := pk.now rp e (.rng (rngP_any i))
/-- an int, known or not -/
theorem RV.num {d : DV} {v : V} (r : RV T ρ F H d v) (n : (∃ i, d = .int i) ∨ ∃ lo hi, d = .rng lo hi ∧ (lo < hi ∨ hi < 0)) : ∃ i, v = .int i := by
  rcases n with ⟨i, rfl⟩ | ⟨lo, hi, rfl, n⟩
  · exact ⟨i, r.int_inv⟩
  · obtain ⟨i, e, _⟩ := r.rng_inv n
    exact ⟨i, e⟩
theorem anyG_some {lo hi : Int} {e : DV} (eq : anyG lo hi e h k = some O) : ((∃ i, e = .int i) ∨ ∃ lo hi, e = .rng lo hi ∧ (lo < hi ∨ hi < 0)) ∧ kAny h k = some O := by
  rcases dIR_some (show dIR e _ _ = some O from eq) with ⟨i, ej, e1⟩ | ⟨lo, hi, ej, n, e1⟩
  · exact ⟨.inl ⟨i, ej⟩, e1⟩
  · exact ⟨.inr ⟨lo, hi, ej, n⟩, e1⟩
theorem kG_some {lo hi : Int} (e : kG lo hi h k = some O) : k (.rng lo hi) h = some O := by
  unfold kG at e
  rw [forceI_eq, forceI_eq] at e
  exact e
theorem rest_ok {r hi : Int} (hh : hi < 0) : hi ≤ r % (-hi) - (-hi) ∧ r % (-hi) - (-hi) < 0 := by
  have h1 := Int.emod_nonneg r (show -hi ≠ 0 by omega)
  have h2 := Int.emod_lt_of_pos r (show 0 < -hi by omega)
  omega
theorem kR_some {r hi : Int} (e : kR r hi h k = some O) : hi < 0 ∧ k (.rng (r % (-hi) - (-hi)) hi) h = some O := by
  obtain ⟨e1, e2⟩ := bsel_some (show bsel _ _ _ = some O from e)
  rw [iLt_eq] at e1
  have hh : hi < 0 := of_decide_eq_true e1
  have e3 := kG_some e2
  rw [iSub_eq, iNeg_eq, iMod_eq] at e3
  exact ⟨hh, e3⟩
theorem rngP_res {r hi i : Int} (hh : hi < 0) (e : i % (-hi) = r % (-hi)) : rngP (r % (-hi) - (-hi)) hi i := by
  obtain ⟨h1, h2⟩ := rest_ok (r := r) hh
  refine .inr ⟨h1, hh, ?_, fun z => absurd z (by omega)⟩
  rw [e, Int.sub_emod, Int.emod_self, Int.sub_zero, Int.emod_emod, Int.emod_emod]
theorem rngP_of {lo hi i : Int} (p : rngP lo hi i) (n : ¬ lo < hi) : hi < 0 ∧ i % (-hi) = lo % (-hi) ∧ (0 ≤ lo → -(10 ^ 50) < i ∧ i < 10 ^ 50) := by
  rcases p with ⟨a, _, _⟩ | ⟨_, a, b, c⟩
  · exact absurd a n
  · exact ⟨a, b, c⟩
theorem rngP_in {lo hi i : Int} (p : rngP lo hi i) (n : lo < hi) : lo ≤ i ∧ i < hi := by
  rcases p with ⟨_, a, b⟩ | ⟨a, _⟩
  · exact ⟨a, b⟩
  · omega

theorem or_addR (mk : Bool) : OpR X (binaryOp .Add) (RdO T (oAddR mk)) := by
  intro pins st σ H x y v u Q I rx ry hq
  obtain ⟨O, ρ, F, d, e, h, k, rp, rd, re, eq, pk⟩ := hq
  cases d with
  | int i =>
    rcases dIR_some (show dIR e _ _ = some O from eq) with ⟨j, ej, e1⟩ | ⟨lo, hi, ej, nn, e1⟩
    · subst ej
      refine op_add pins st σ H x y v u Q I rx ry ⟨i, j, rd.int_inv, re.int_inv, pk.now rp (kI_some e1) ?_⟩
      rw [iAdd_eq]
      exact .int _
    · subst ej
      obtain ⟨j, ev, p⟩ := re.rng_inv nn
      refine op_add pins st σ H x y v u Q I rx ry ⟨i, j, rd.int_inv, ev, ?_⟩
      rcases bsel2_some e1 with ⟨b, e2⟩ | ⟨b, e2⟩
      · rw [iLt_eq] at b
        have e3 := kG_some e2
        rw [iAdd_eq, iAdd_eq] at e3
        obtain ⟨p1, p2⟩ := rngP_in p (of_decide_eq_true b)
        exact pk.now rp e3 (.rng (.inl ⟨by omega, by omega, by omega⟩))
      · rw [iLt_eq] at b
        obtain ⟨hh, e3⟩ := kR_some e2
        obtain ⟨_, p1, _⟩ := rngP_of p (of_decide_eq_false b)
        refine pk.now rp e3 (.rng (rngP_res hh ?_))
        rw [iAdd_eq, Int.add_emod, p1, ← Int.add_emod]
  | rng lo hi =>
    obtain ⟨n, eq⟩ := gOk_some (show gOk lo hi _ = some O from eq)
    obtain ⟨i, ei, _⟩ := rd.rng_inv n
    obtain ⟨m, e1⟩ := anyG_some eq
    obtain ⟨j, ej⟩ := re.num m
    exact op_add pins st σ H x y v u Q I rx ry ⟨i, j, ei, ej, kAny_some rp e1 pk⟩
  | str a => exact or_add mk pins st σ H x y v u Q I rx ry ⟨O, ρ, F, .str a, e, h, k, rp, rd, re, eq, pk⟩
  | tup a => exact or_add mk pins st σ H x y v u Q I rx ry ⟨O, ρ, F, .tup a, e, h, k, rp, rd, re, eq, pk⟩
  | lst a => exact or_add mk pins st σ H x y v u Q I rx ry ⟨O, ρ, F, .lst a, e, h, k, rp, rd, re, eq, pk⟩
  | ref a => exact or_add mk pins st σ H x y v u Q I rx ry ⟨O, ρ, F, .ref a, e, h, k, rp, rd, re, eq, pk⟩
  | _ => cases eq
theorem or_subR : OpR X (binaryOp .Sub) (RdO T oSubR) := by
  intro pins st σ H x y v u Q I rx ry hq
  obtain ⟨O, ρ, F, d, e, h, k, rp, rd, re, eq, pk⟩ := hq
  cases d with
  | int i =>
    rcases dIR_some (show dIR e _ _ = some O from eq) with ⟨j, ej, e1⟩ | ⟨lo, hi, ej, nn, e1⟩
    · subst ej
      refine op_sub pins st σ H x y v u Q I rx ry ⟨i, j, rd.int_inv, re.int_inv, pk.now rp (kI_some e1) ?_⟩
      rw [iSub_eq]
      exact .int _
    · subst ej
      obtain ⟨j, ev, p⟩ := re.rng_inv nn
      refine op_sub pins st σ H x y v u Q I rx ry ⟨i, j, rd.int_inv, ev, ?_⟩
      rcases bsel2_some e1 with ⟨b, e2⟩ | ⟨b, e2⟩
      · rw [iLt_eq] at b
        have e3 := kG_some e2
        rw [iAdd_eq, iAdd_eq, iSub_eq, iSub_eq] at e3
        obtain ⟨p1, p2⟩ := rngP_in p (of_decide_eq_true b)
        exact pk.now rp e3 (.rng (.inl ⟨by omega, by have : Int.ofNat 1 = 1 := rfl; omega, by have : Int.ofNat 1 = 1 := rfl; omega⟩))
      · rw [iLt_eq] at b
        obtain ⟨hh, e3⟩ := kR_some e2
        obtain ⟨_, p1, _⟩ := rngP_of p (of_decide_eq_false b)
        refine pk.now rp e3 (.rng (rngP_res hh ?_))
        rw [iSub_eq, Int.sub_emod, p1, ← Int.sub_emod]
  | rng lo hi =>
    obtain ⟨n, eq⟩ := gOk_some (show gOk lo hi _ = some O from eq)
    obtain ⟨i, ei, _⟩ := rd.rng_inv n
    obtain ⟨m, e1⟩ := anyG_some eq
    obtain ⟨j, ej⟩ := re.num m
    exact op_sub pins st σ H x y v u Q I rx ry ⟨i, j, ei, ej, kAny_some rp e1 pk⟩
  | _ => cases eq
theorem brec_and2 {a b : Bool} (e : @Bool.rec (fun _ => Bool) false b a = true) : a = true ∧ b = true := by
  cases a with
  | true => exact ⟨rfl, e⟩
  | false => cases e
theorem smallM_eq {i : Int} (e : smallM i = true) : -(2 ^ 64) < i ∧ i < 2 ^ 64 := by
  obtain ⟨e1, e2⟩ := brec_and2 e
  rw [iLt_eq, iNeg_eq] at e1
  rw [iLt_eq] at e2
  have h1 : -(Int.ofNat (Nat.pow 2 64)) < i := of_decide_eq_true e1
  have h2 : i < Int.ofNat (Nat.pow 2 64) := of_decide_eq_true e2
  have h3 : Int.ofNat (Nat.pow 2 64) = 2 ^ 64 := by decide +kernel
  rw [h3] at h1 h2
  exact ⟨h1, h2⟩
theorem or_mulR (mk : Bool) : OpR X (binaryOp .Mult) (RdO T (oMulR mk)) := by
  intro pins st σ H x y v u Q I rx ry hq
  obtain ⟨O, ρ, F, d, e, h, k, rp, rd, re, eq, pk⟩ := hq
  cases d with
  | int i =>
    rcases dIR_some (show dIR e _ _ = some O from eq) with ⟨j, ej, e1⟩ | ⟨lo, hi, ej, nn, e1⟩
    · subst ej
      exact or_mul mk pins st σ H x y v u Q I rx ry ⟨O, ρ, F, .int i, .int j, h, k, rp, rd, re, e1, pk⟩
    · subst ej
      obtain ⟨j, ev, p⟩ := re.rng_inv nn
      obtain ⟨b, e2⟩ := bsel_some e1
      exact op_mul pins st σ H x y v u Q I rx ry ⟨i, j, rd.int_inv, ev, .inl (smallM_eq b), kAny_some rp e2 pk⟩
  | rng lo hi =>
    obtain ⟨n, eq⟩ := gOk_some (show gOk lo hi _ = some O from eq)
    obtain ⟨i, ei, _⟩ := rd.rng_inv n
    rcases dIR_some (show dIR e _ _ = some O from eq) with ⟨j, ej, e1⟩ | ⟨lo2, hi2, ej, nn, e1⟩
    · subst ej
      obtain ⟨b, e2⟩ := bsel_some e1
      exact op_mul pins st σ H x y v u Q I rx ry ⟨i, j, ei, re.int_inv, .inr (smallM_eq b), kAny_some rp e2 pk⟩
    · subst ej
      obtain ⟨j, ev, p⟩ := re.rng_inv nn
      obtain ⟨b1, e2⟩ := bsel_some e1
      obtain ⟨b2, e2⟩ := bsel_some e2
      obtain ⟨b3, e2⟩ := bsel_some e2
      rw [iLt_eq] at b1
      obtain ⟨p1, p2⟩ := rngP_in p (of_decide_eq_true b1)
      obtain ⟨q1, q2⟩ := smallM_eq b2
      obtain ⟨q3, q4⟩ := smallM_eq b3
      exact op_mul pins st σ H x y v u Q I rx ry ⟨i, j, ei, ev, .inr ⟨Int.lt_of_lt_of_le q1 p1, Int.lt_trans p2 q4⟩, kAny_some rp e2 pk⟩
  | str a => exact or_mul mk pins st σ H x y v u Q I rx ry ⟨O, ρ, F, .str a, e, h, k, rp, rd, re, eq, pk⟩
  | tup a => exact or_mul mk pins st σ H x y v u Q I rx ry ⟨O, ρ, F, .tup a, e, h, k, rp, rd, re, eq, pk⟩
  | lst a => exact or_mul mk pins st σ H x y v u Q I rx ry ⟨O, ρ, F, .lst a, e, h, k, rp, rd, re, eq, pk⟩
  | _ => cases eq
theorem or_divR : OpR X (binaryOp .FloorDiv) (RdO T oDivR) := by
  intro pins st σ H x y v u Q I rx ry hq
  obtain ⟨O, ρ, F, d, e, h, k, rp, rd, re, eq, pk⟩ := hq
  cases d with
  | int i => exact or_div pins st σ H x y v u Q I rx ry ⟨O, ρ, F, .int i, e, h, k, rp, rd, re, eq, pk⟩
  | rng lo hi =>
    obtain ⟨n, eq⟩ := gOk_some (show gOk lo hi _ = some O from eq)
    obtain ⟨i, ei, _⟩ := rd.rng_inv n
    obtain ⟨j, ej, e1⟩ := dInt_some (show dInt e _ = some O from eq)
    subst ej
    obtain ⟨b1, e1⟩ := bsel_some e1
    obtain ⟨b2, e1⟩ := bsel_some e1
    rw [iLt_eq] at b1
    exact op_fdivW pins st σ H x y v u Q I rx ry ⟨i, j, ei, re.int_inv, ⟨of_decide_eq_true b1, by rw [← bits_eq]; exact Nat.le_of_ble_eq_true b2⟩, kAny_some rp e1 pk⟩
  | _ => cases eq
theorem dvd_emod {i lo m j : Int} (e : i % m = lo % m) (d : m % j = 0) : i % j = lo % j := by
  have hd : j ∣ m := Int.dvd_of_emod_eq_zero d
  rw [← Int.emod_emod_of_dvd i hd, e, Int.emod_emod_of_dvd lo hd]
theorem or_modR : OpR X (binaryOp .Mod) (RdO T oModR) := by
  intro pins st σ H x y v u Q I rx ry hq
  obtain ⟨O, ρ, F, d, e, h, k, rp, rd, re, eq, pk⟩ := hq
  cases d with
  | int i => exact or_mod pins st σ H x y v u Q I rx ry ⟨O, ρ, F, .int i, e, h, k, rp, rd, re, eq, pk⟩
  | rng lo hi =>
    obtain ⟨n, eq⟩ := gOk_some (show gOk lo hi _ = some O from eq)
    obtain ⟨j, ej, e1⟩ := dInt_some (show dInt e _ = some O from eq)
    subst ej
    obtain ⟨i, ev, p⟩ := rd.rng_inv n
    obtain ⟨b1, e1⟩ := bsel_some e1
    rw [iLt_eq] at b1
    have h1 : (0 : Int) < j := of_decide_eq_true b1
    refine op_mod pins st σ H x y v u Q I rx ry ⟨i, j, ev, re.int_inv, h1, ?_⟩
    show Q (.int (i % j)) H
    have gen : kG (.ofNat 0) j h k = some O → Q (.int (i % j)) H := fun e => by
      have e3 := kG_some e
      have z : Int.ofNat 0 = 0 := rfl
      exact pk.now rp e3 (.rng (.inl ⟨h1, Int.emod_nonneg i (by omega), Int.emod_lt_of_pos i h1⟩))
    rcases bsel2_some e1 with ⟨b2, e2⟩ | ⟨b2, e2⟩
    · exact gen e2
    · rcases bsel2_some e2 with ⟨b4, e2⟩ | ⟨b4, e2⟩
      · rw [iLt_eq] at b2
        rw [iEq_eq, iMod_eq, iNeg_eq] at b4
        have h4 : (-hi) % j = 0 := eq_of_beq b4
        obtain ⟨_, p1, _⟩ := rngP_of p (of_decide_eq_false b2)
        rw [dvd_emod p1 h4]
        have e3 := kI_some e2
        rw [iMod_eq] at e3
        exact pk.now rp e3 (.int _)
      · exact gen e2
  | _ => cases eq
theorem tenP_eq : tenP = 10 ^ 50 := by decide +kernel
theorem ltJ_ok {i lo hi j : Int} (rp : Rep T ρ F H h) (p : rngP lo hi j) (e : ltJ i lo hi h k = some O) (pk : PostK T O ρ F H k Q) : Q (.bl (decide (i < j))) H := by
  have yes : i < j → k (.bl true) h = some O → Q (.bl (decide (i < j))) H := fun q e => by rw [decide_eq_true q]; exact pk.now rp e (.bl _)
  have no : ¬ i < j → k (.bl false) h = some O → Q (.bl (decide (i < j))) H := fun q e => by rw [decide_eq_false q]; exact pk.now rp e (.bl _)
  have bo : kBoth h k = some O → Q (.bl (decide (i < j))) H := fun e => pk.now rp (kBoth_some e _) (.bl _)
  rcases bsel2_some (show bsel _ _ _ = some O from e) with ⟨b, e2⟩ | ⟨b, e2⟩
  · rw [iLt_eq] at b
    obtain ⟨p1, p2⟩ := rngP_in p (of_decide_eq_true b)
    rcases bsel2_some e2 with ⟨b2, e3⟩ | ⟨b2, e3⟩
    · rw [iLt_eq] at b2
      have := of_decide_eq_true b2
      exact yes (by omega) e3
    · rcases bsel2_some e3 with ⟨b3, e4⟩ | ⟨b3, e4⟩
      · rw [iLe_eq, iAdd_eq] at b3
        have h3 : hi ≤ i + 1 := of_decide_eq_true b3
        exact no (by omega) e4
      · exact bo e4
  · rw [iLt_eq] at b
    rcases bsel2_some e2 with ⟨b2, e3⟩ | ⟨b2, e3⟩
    · rcases bsel2_some e3 with ⟨b4, e4⟩ | ⟨b4, e4⟩
      · rw [iLe_eq] at b2
        rw [iLe_eq, iNeg_eq, tenP_eq] at b4
        have h2 : (0 : Int) ≤ lo := of_decide_eq_true b2
        have h4 : i ≤ -(10 ^ 50) := of_decide_eq_true b4
        obtain ⟨_, _, p3⟩ := rngP_of p (of_decide_eq_false b)
        exact yes (Int.lt_of_le_of_lt h4 (p3 h2).1) e4
      · exact bo e4
    · exact bo e3
theorem ltX_ok {i lo hi j : Int} (rp : Rep T ρ F H h) (p : rngP lo hi i) (e : ltX lo hi j h k = some O) (pk : PostK T O ρ F H k Q) : Q (.bl (decide (i < j))) H := by
  have yes : i < j → k (.bl true) h = some O → Q (.bl (decide (i < j))) H := fun q e => by rw [decide_eq_true q]; exact pk.now rp e (.bl _)
  have no : ¬ i < j → k (.bl false) h = some O → Q (.bl (decide (i < j))) H := fun q e => by rw [decide_eq_false q]; exact pk.now rp e (.bl _)
  have bo : kBoth h k = some O → Q (.bl (decide (i < j))) H := fun e => pk.now rp (kBoth_some e _) (.bl _)
  rcases bsel2_some (show bsel _ _ _ = some O from e) with ⟨b, e2⟩ | ⟨b, e2⟩
  · rw [iLt_eq] at b
    obtain ⟨p1, p2⟩ := rngP_in p (of_decide_eq_true b)
    rcases bsel2_some e2 with ⟨b2, e3⟩ | ⟨b2, e3⟩
    · rw [iLe_eq] at b2
      have := of_decide_eq_true b2
      exact yes (by omega) e3
    · rcases bsel2_some e3 with ⟨b3, e4⟩ | ⟨b3, e4⟩
      · rw [iLe_eq] at b3
        have := of_decide_eq_true b3
        exact no (by omega) e4
      · exact bo e4
  · rw [iLt_eq] at b
    rcases bsel2_some e2 with ⟨b2, e3⟩ | ⟨b2, e3⟩
    · rcases bsel2_some e3 with ⟨b4, e4⟩ | ⟨b4, e4⟩
      · rw [iLe_eq] at b2
        rw [iLe_eq, tenP_eq] at b4
        have h2 : (0 : Int) ≤ lo := of_decide_eq_true b2
        have h4 : 10 ^ 50 ≤ j := of_decide_eq_true b4
        obtain ⟨_, _, p3⟩ := rngP_of p (of_decide_eq_false b)
        exact yes (Int.lt_of_lt_of_le (p3 h2).2 h4) e4
      · exact bo e4
    · exact bo e3
theorem or_ltR (hu : X.A.units + 64 < cLine) : OpR X (compareOp .Lt) (RdO T oLtR) := by
  intro pins st σ H x y v u Q I rx ry hq
  obtain ⟨O, ρ, F, d, e, h, k, rp, rd, re, eq, pk⟩ := hq
  cases d with
  | int i =>
    rcases dIR_some (show dIR e _ _ = some O from eq) with ⟨j, ej, e1⟩ | ⟨lo, hi, ej, nn, e1⟩
    · subst ej
      exact or_lt pins st σ H x y v u Q I rx ry ⟨O, ρ, F, .int i, .int j, h, k, rp, rd, re, e1, pk⟩
    · subst ej
      obtain ⟨j, ev, p⟩ := re.rng_inv nn
      exact op_lt pins st σ H x y v u Q I rx ry ⟨i, j, rd.int_inv, ev, ltJ_ok rp p e1 pk⟩
  | rng lo hi =>
    obtain ⟨n, eq⟩ := gOk_some (show gOk lo hi _ = some O from eq)
    obtain ⟨j, ej, e1⟩ := dInt_some (show dInt e _ = some O from eq)
    subst ej
    obtain ⟨i, ev, p⟩ := rd.rng_inv n
    exact op_lt pins st σ H x y v u Q I rx ry ⟨i, j, ev, re.int_inv, ltX_ok rp p e1 pk⟩
  | str z => exact or_ltX hu pins st σ H x y v u Q I rx ry ⟨O, ρ, F, .str z, e, h, k, rp, rd, re, eq, pk⟩
  | tup z => exact or_ltX hu pins st σ H x y v u Q I rx ry ⟨O, ρ, F, .tup z, e, h, k, rp, rd, re, eq, pk⟩
  | lst z => exact or_ltX hu pins st σ H x y v u Q I rx ry ⟨O, ρ, F, .lst z, e, h, k, rp, rd, re, eq, pk⟩
  | _ => cases eq
theorem or_gtR (hu : X.A.units + 64 < cLine) : OpR X (compareOp .Gt) (RdO T oGtR) := by
  intro pins st σ H x y v u Q I rx ry hq
  obtain ⟨O, ρ, F, d, e, h, k, rp, rd, re, eq, pk⟩ := hq
  cases d with
  | int i =>
    rcases dIR_some (show dIR e _ _ = some O from eq) with ⟨j, ej, e1⟩ | ⟨lo, hi, ej, nn, e1⟩
    · subst ej
      exact or_gt pins st σ H x y v u Q I rx ry ⟨O, ρ, F, .int i, .int j, h, k, rp, rd, re, e1, pk⟩
    · subst ej
      obtain ⟨j, ev, p⟩ := re.rng_inv nn
      exact op_gt pins st σ H x y v u Q I rx ry ⟨i, j, rd.int_inv, ev, ltX_ok rp p e1 pk⟩
  | rng lo hi =>
    obtain ⟨n, eq⟩ := gOk_some (show gOk lo hi _ = some O from eq)
    obtain ⟨j, ej, e1⟩ := dInt_some (show dInt e _ = some O from eq)
    subst ej
    obtain ⟨i, ev, p⟩ := rd.rng_inv n
    exact op_gt pins st σ H x y v u Q I rx ry ⟨i, j, ev, re.int_inv, ltJ_ok rp p e1 pk⟩
  | str z => exact or_gtX hu pins st σ H x y v u Q I rx ry ⟨O, ρ, F, .str z, e, h, k, rp, rd, re, eq, pk⟩
  | tup z => exact or_gtX hu pins st σ H x y v u Q I rx ry ⟨O, ρ, F, .tup z, e, h, k, rp, rd, re, eq, pk⟩
  | lst z => exact or_gtX hu pins st σ H x y v u Q I rx ry ⟨O, ρ, F, .lst z, e, h, k, rp, rd, re, eq, pk⟩
  | _ => cases eq
theorem cb_intR : CallR X (.type "int") (RdB T oIntR) := by
  refine CallR.imp call_int1 (rdb1 fun {O ρ F H h k Q d v} rp r e pk => ?_)
  have num : dIR d (fun i => k (.int i) h) (fun lo hi => k (.rng lo hi) h) = some O → (∃ i, [v] = [V.int i] ∧ Q (.int i) H) := fun e => by
    rcases dIR_some e with ⟨i, ed, e1⟩ | ⟨lo, hi, ed, n, e1⟩
    · subst ed
      exact ⟨i, by rw [r.int_inv], pk.now rp e1 (.int _)⟩
    · subst ed
      obtain ⟨i, ev, p⟩ := r.rng_inv n
      exact ⟨i, by rw [ev], pk.now rp e1 (.rng p)⟩
  cases d with
  | bl b => exact .inr ⟨b, by rw [r.bl_inv], pk.now rp e (by cases b <;> exact .int _)⟩
  | _ => exact .inl (num e)
theorem cb_absR : CallR X (.builtin "abs") (RdB T oAbsR) := by
  refine CallR.imp call_abs (rdb1 fun {O ρ F H h k Q d v} rp r e pk => ?_)
  rcases dIR_some e with ⟨i, ed, e⟩ | ⟨lo, hi, ed, n, e1⟩
  · subst ed
    refine ⟨i, by rw [r.int_inv], ?_⟩
    rcases bsel2_some e with ⟨b, e⟩ | ⟨b, e⟩
    · rw [iLt_eq] at b
      rw [if_pos (show i < 0 from of_decide_eq_true b)]
      exact pk.now rp (kI_some e) (by rw [iNeg_eq]; exact .int _)
    · rw [iLt_eq] at b
      rw [if_neg (show ¬ i < 0 from of_decide_eq_false b)]
      exact pk.now rp e (.int _)
  · subst ed
    obtain ⟨i, ev, p⟩ := r.rng_inv n
    exact ⟨i, by rw [ev], kAny_some rp e1 pk⟩
theorem iMin_eq (i j : Int) : iMin i j = if j < i then j else i := by
  unfold iMin
  rw [iLt_eq]
  by_cases z : j < i
  · rw [decide_eq_true z, if_pos z]
  · rw [decide_eq_false z, if_neg z]
theorem iMax_eq (i j : Int) : iMax i j = if i < j then j else i := by
  unfold iMax
  rw [iLt_eq]
  by_cases z : i < j
  · rw [decide_eq_true z, if_pos z]
  · rw [decide_eq_false z, if_neg z]
theorem cb_min2R (hc : X.calm = true) : CallR X (.builtin "min") (RdB T oMin2R) := by
  refine CallR.imp (call_min2 hc) (rdb2 fun {O ρ F H h k Q d v d' v'} rp r r' e pk => ?_)
  obtain ⟨i, ed, e⟩ := dInt_some e
  subst ed
  rcases dIR_some e with ⟨j, ed, e1⟩ | ⟨lo, hi, ed, n, e1⟩
  · subst ed
    refine ⟨i, j, by rw [r.int_inv, r'.int_inv], ?_⟩
    rcases bsel2_some e1 with ⟨b, e2⟩ | ⟨b, e2⟩
    · rw [iLt_eq] at b
      rw [if_pos (show j < i from of_decide_eq_true b)]
      exact pk.now rp e2 (.int _)
    · rw [iLt_eq] at b
      rw [if_neg (show ¬ j < i from of_decide_eq_false b)]
      exact pk.now rp e2 (.int _)
  · subst ed
    obtain ⟨j, ev, p⟩ := r'.rng_inv n
    refine ⟨i, j, by rw [r.int_inv, ev], ?_⟩
    rcases bsel2_some (show bsel (iLt lo hi) _ _ = some O from e1) with ⟨b, e2⟩ | ⟨b, e2⟩
    · rw [iLt_eq] at b
      obtain ⟨p1, p2⟩ := rngP_in p (of_decide_eq_true b)
      have e3 := kG_some e2
      refine pk.now rp e3 (.rng (.inl ?_))
      have z : Int.ofNat 1 = 1 := rfl
      rw [iAdd_eq, iSub_eq, iMin_eq, iMin_eq, z]
      have b := of_decide_eq_true b
      repeat' split
      all_goals omega
    · exact kAny_some rp e2 pk
theorem cb_max2R (hc : X.calm = true) : CallR X (.builtin "max") (RdB T oMax2R) := by
  refine CallR.imp (call_max2 hc) (rdb2 fun {O ρ F H h k Q d v d' v'} rp r r' e pk => ?_)
  obtain ⟨i, ed, e⟩ := dInt_some e
  subst ed
  rcases dIR_some e with ⟨j, ed, e1⟩ | ⟨lo, hi, ed, n, e1⟩
  · subst ed
    refine ⟨i, j, by rw [r.int_inv, r'.int_inv], ?_⟩
    rcases bsel2_some e1 with ⟨b, e2⟩ | ⟨b, e2⟩
    · rw [iLt_eq] at b
      rw [if_pos (show j > i from of_decide_eq_true b)]
      exact pk.now rp e2 (.int _)
    · rw [iLt_eq] at b
      rw [if_neg (show ¬ j > i from of_decide_eq_false b)]
      exact pk.now rp e2 (.int _)
  · subst ed
    obtain ⟨j, ev, p⟩ := r'.rng_inv n
    refine ⟨i, j, by rw [r.int_inv, ev], ?_⟩
    rcases bsel2_some (show bsel (iLt lo hi) _ _ = some O from e1) with ⟨b, e2⟩ | ⟨b, e2⟩
    · rw [iLt_eq] at b
      obtain ⟨p1, p2⟩ := rngP_in p (of_decide_eq_true b)
      have e3 := kG_some e2
      refine pk.now rp e3 (.rng (.inl ?_))
      have z : Int.ofNat 1 = 1 := rfl
      rw [iAdd_eq, iSub_eq, iMax_eq, iMax_eq, z]
      have b := of_decide_eq_true b
      repeat' split
      all_goals omega
    · exact kAny_some rp e2 pk
theorem gcd_rest (i j : Int) : Int.gcd i j = Int.gcd (i % j) j := by
  have e : i % j = i - j * (i / j) := by have := Int.emod_add_mul_ediv i j; omega
  rw [e, Int.gcd_sub_mul_left_left]
theorem cb_gcdR : CallR X (.builtin "math.gcd") (RdB T oGcdR) := by
  refine CallR.imp cr_gcd (rdb2 fun {O ρ F H h k Q d v d' v'} rp r r' e pk => ?_)
  obtain ⟨j, ed', e2⟩ := dInt_some e
  subst ed'
  rcases dIR_some e2 with ⟨i, ed, e1⟩ | ⟨lo, hi, ed, n, e1⟩
  · subst ed
    rw [forceN_eq] at e1
    exact ⟨i, j, by rw [r.int_inv, r'.int_inv], pk.now rp e1 (.int _)⟩
  · subst ed
    obtain ⟨i, ev, p⟩ := r.rng_inv n
    obtain ⟨b1, e1⟩ := bsel_some (show bsel _ _ _ = some O from e1)
    obtain ⟨b2, e1⟩ := bsel_some e1
    obtain ⟨b4, e1⟩ := bsel_some e1
    rw [iLe_eq] at b2
    rw [iEq_eq, iMod_eq, iNeg_eq] at b4
    have h2 : hi ≤ lo := of_decide_eq_true b2
    have h4 : (-hi) % j = 0 := eq_of_beq b4
    obtain ⟨_, p1, _⟩ := rngP_of p (by omega)
    refine ⟨i, j, by rw [ev, r'.int_inv], ?_⟩
    have e3 : Int.gcd i j = Nat.gcd (Int.natAbs (lo % j)) (Int.natAbs j) := by rw [gcd_rest i j, dvd_emod p1 h4] <;> rfl
    rw [forceN_eq, iMod_eq, ← e3] at e1
    exact pk.now rp e1 (.int _)
/-! every value of such an int -/
theorem bothT_some {x y : A} (e : bothT x y = some O) (hy : y = some O → O = .ret (.bl true)) : x = some O ∧ y = some O := by
  obtain ⟨e1, e2⟩ := bsel_some (show bsel _ _ _ = some O from e)
  refine ⟨?_, e2⟩
  rw [isT_some e1, hy e2]
  rfl
theorem allT_yes : ∀ {n : Nat} {f : Nat → A}, allT n f = some O → O = .ret (.bl true)
  | 0, f, e => by cases e; rfl
  | n + 1, f, e => allT_yes (bsel_some (show bsel (isT (f n)) (allT n f) none = some O from e)).2
theorem allT_some : ∀ {n : Nat} {f : Nat → A}, allT n f = some O → ∀ m, m < n → f m = some O
  | 0, _, _, m, h => absurd h (by omega)
  | n + 1, f, e, m, h => by
    obtain ⟨e1, e2⟩ := bothT_some (show bothT (f n) (allT n f) = some O from e) allT_yes
    by_cases z : m = n
    · subst z; exact e1
    · exact allT_some e2 m (by omega)
theorem split_ok {d : DV} {v : V} (rp : Rep T ρ F H h) (r : RV T ρ F H d v) (e : splitK d h k = some O) (pk : PostK T O ρ F H k Q) : Q v H := by
  rcases dIR_some e with ⟨i, ed, e1⟩ | ⟨lo, hi, ed, n, e1⟩
  · subst ed
    exact pk _ h e1 ρ F H v .refl rp r
  · subst ed
    obtain ⟨i, ev, p⟩ := r.rng_inv n
    obtain ⟨b, e2⟩ := bsel_some e1
    rw [iLt_eq] at b
    obtain ⟨p1, p2⟩ := rngP_in p (of_decide_eq_true b)
    rw [iSub_eq] at e2
    have e3 := allT_some e2 (i - lo).toNat (by omega)
    have e4 := kI_some e3
    rw [iAdd_eq, show lo + Int.ofNat (i - lo).toNat = i from by have : Int.ofNat (i - lo).toNat = i - lo := Int.toNat_of_nonneg (by omega); omega] at e4
    subst ev
    exact pk.now rp e4 (.int _)
theorem snd_split {e : Expr} {c : Code} (he : Snd T X W e c) : Snd T X W e (eSplit c) := by
  refine PE.imp he fun σ H Q hq => ?_
  obtain ⟨O, ρ, F, s, h, k, x, rp, rs, e, pk, px⟩ := hq
  exact RdE.seq rp rs e px fun u h1 ρ1 F1 H1 u' e1 l1 r1 ru rs1 px1 => split_ok r1 ru e1 (pk.le l1)
end SW
end
section
/-! Short forms for printed proofs. -/
namespace SW
open PySem PySem.Spec PyProof.Rows L2 SlX
variable {T : Tab} {W : WX} {X : Cx} {C : Addr} {f : Str} {k : Nat} {sp : Sp}
theorem takes0 : L2.Takes X W0 := fun u s' h => by
  obtain ⟨_, _, _, _, _, _, _, _, _, _, _, _, _, _, _, _, w⟩ := h
  exact w.elim
/-- built-in names that no law's module takes -/
def FREE : List Str := ["len", "int", "abs", "min", "max", "sum", "all", "any", "list", "tuple", "dict", "set", "sorted", "range", "enumerate", "zip", "isinstance", "str", "repr", "iter", "bool", "super", "reversed", "type"]
/-- what a printed proof leans on -/
structure Cx1 (T : Tab) (X : Cx) (W : WX) : Prop where
  hw : T.w = X.w
  hr : Room 0 X.A
  hc : X.calm = true
  hN : X.N.Nodup
  tk : L2.Takes X W
  fr : ∀ nm ∈ FREE, X.mg nm = none
theorem Cx1.hu (c : Cx1 T X W) : X.A.units + 200 < cLine := by have := c.hr.un; omega
theorem Cx1.b (c : Cx1 T X W) {s : Shared} {H : Hp} {scope : Scope} {ce : Env} {fp : List Addr} : Cx1 T (X.blk s H scope ce fp) W0 := ⟨c.hw, c.hr, c.hc, c.hN, takes0, c.fr⟩
/-- a def by the module's name -/
structure FnG (P : Program) (w : World) (K : PySem.W.Frag) (mg : Str → Option Value) (base : Heap) (nm : Str) (k n : Nat) (T : Tab) (c : FCode) : Prop where
  at' : ∃ f fd ps, FnOk P w K mg base (L2.CX P w) k f fd ps (spOf T n c) ∧ mg nm = some (.ref f) ∧ PySem.W.keepIn K (.ref f) = true ∧ Binds K fd ps []
section
variable {nm : Str} {k n : Nat} {f : FCode} {p pos : Pos} {e : Expr} {es : List Expr} {ca : LCode}
theorem g_call (c : Cx1 T X W) (hr : Room k X.A) (F : FnG X.prog X.w X.K X.mg X.base nm k n T f) (ha : SndA T X W (e :: es) ca) (hn : es.length + 1 = n := by rfl) (hg : Gl X nm := by rfl) (hdb : (nm == ("__debug__" : Str)) = false := by decide)
    (he : starEach (e :: es) X.env = (false, eval e X.env) :: starEach es X.env := by rfl) (hpl : (backTo pos (starEach es X.env)).any (·.1) = false := by rfl) : Snd T X W (.Call (.Name nm p) (e :: es) [] pos) (eCall f ca) := by
  obtain ⟨fa, fd, ps, h1, h2, h3, h4⟩ := F.at'
  exact snd_call h1 hr hg h2 h3 h4 (fun σ => L2.passAt c.tk σ) ha hn hdb he hpl
end
section
variable {e a b : Expr} {es : List Expr} {ca cb ce : Code} {la : LCode} {p pos : Pos} {nm : Str}
theorem gv {i : Nat} (hN : X.N[i]? = some nm := by rfl) (hv : Vis X.env.scope nm := by exact .inl rfl) (hd : (nm == ("__debug__" : Str)) = false := by decide) (hcd : (nm == ("__classdict__" : Str)) = false := by decide) : Snd T X W (.Name nm pos) (eVar i) := snd_var hN hv hd hcd
theorem ga1 {c : Code} {r : LCode} (he : Snd T X W e c) (hr : SndA T X W es r) (hs : starEach (e :: es) X.env = (false, eval e X.env) :: starEach es X.env := by rfl) : SndA T X W (e :: es) (aCons c r) := snda_cons he hr hs
theorem gw1 {c : Code} {r : LCode} (he : Snd T X W e c) (hr : SndAv T X W es r) (hs : starEach (e :: es) X.env = (false, eval e X.env) :: starEach es X.env := by rfl) : SndAv T X W (e :: es) (aCons c r) := sndav_cons he hr hs
theorem gws {c : Code} {r : LCode} (he : Snd T X W e c) (hr : SndAv T X W es r) (hs : starEach (.Starred e p :: es) X.env = (true, eval e X.env) :: starEach es X.env := by rfl) : SndAv T X W (.Starred e p :: es) (aStar c r) := sndav_star he hr hs
theorem gcmp {o : Op2} {op : CmpOp} (ho : OpR X (compareOp op) (RdO T o)) (ha : Snd T X W a ca) (hb : Snd T X W b cb) (hm : behindInMarks op b = false := by rfl) : Snd T X W (.Compare a [op] [b] pos) (eBin o ca cb) := snd_cmp ho ha hb hm
theorem gtcmp {o : Op2} {op : CmpOp} (ho : OpR X (compareOp op) (RdO T o)) (ha : Snd T X W a ca) (hb : Snd T X W b cb) (hm : behindInMarks op b = false := by rfl) : SndT T X W (.Compare a [op] [b] pos) (tVal (eBin o ca cb)) := sndt_cmp ho ha hb hm
theorem gtv {c : Code} (he : Snd T X W e c) (hp : ∀ whole, isTrue e X.env whole = (do let v ← whole; standAt e.pos; holding [v] (truthy v)) := by intro _; rfl) : SndT T X W e (tVal c) := sndt_val he hp
theorem gtup {n : Nat} (ha : SndA T X W es la) (hl : es.length ≤ mx := by decide) : Snd T X W (.Tuple es n pos) (eL oTup la) := snd_tup ha hl
theorem glst (ha : SndA T X W es la) (hl : es.length ≤ mx := by decide) : Snd T X W (.List es pos) (eL oLst la) := snd_lst ha hl
theorem gcell (ha : SndA T X W es la) (hl : es.length ≤ mx := by decide) : Snd T X W (.List es pos) (eL oCell la) := snd_cell ha hl
theorem gix (c : Cx1 T X W) (ha : Snd T X W a ca) (hb : Snd T X W b cb) (hs : PlainIx b := by intro _ _; rfl) : Snd T X W (.Subscript a b pos) (eBin oIxD ca cb) := snd_ix (ir_ixD c.hw (by have := c.hu; omega)) ha hb hs
/-- a built-in function, a built-in type by its own name -/
theorem gB {id : String} {o : OpL} (c : Cx1 T X W) (hc : CallR X (.builtin id) (RdB T o)) (ha : SndA T X W (e :: es) la) (hm : nm ∈ FREE := by decide) (hv : bootBuiltins nm = some (.builtin id) := by rfl) (hg : Gl X nm := by rfl) (hn : nm ≠ "__name__" := by decide) (hdb : (nm == ("__debug__" : Str)) = false := by decide)
    (he : starEach (e :: es) X.env = (false, eval e X.env) :: starEach es X.env := by rfl) (hpl : (backTo pos (starEach es X.env)).any (·.1) = false := by rfl) : Snd T X W (.Call (.Name nm p) (e :: es) [] pos) (eL o la) := snd_callB hc hg (c.fr _ hm) hv ha hn hdb he hpl
theorem gTy {id : String} {o : OpL} (c : Cx1 T X W) (hc : CallR X (.type id) (RdB T o)) (ha : SndA T X W (e :: es) la) (hm : nm ∈ FREE := by decide) (hv : bootBuiltins nm = some (.type id) := by rfl) (hg : Gl X nm := by rfl) (hn : nm ≠ "__name__" := by decide) (hdb : (nm == ("__debug__" : Str)) = false := by decide)
    (he : starEach (e :: es) X.env = (false, eval e X.env) :: starEach es X.env := by rfl) (hpl : (backTo pos (starEach es X.env)).any (·.1) = false := by rfl) : Snd T X W (.Call (.Name nm p) (e :: es) [] pos) (eL o la) := snd_callTy hc hg (c.fr _ hm) hv ha hn hdb he hpl
theorem gM {id : String} {o : OpL} (hc : CallR X (.builtin id) (RdB T o)) (hm : X.mg nm = some (.builtin id)) (ha : SndA T X W (e :: es) la) (hg : Gl X nm := by rfl) (hdb : (nm == ("__debug__" : Str)) = false := by decide)
    (he : starEach (e :: es) X.env = (false, eval e X.env) :: starEach es X.env := by rfl) (hpl : (backTo pos (starEach es X.env)).any (·.1) = false := by rfl) : Snd T X W (.Call (.Name nm p) (e :: es) [] pos) (eL o la) := snd_callM hc hg hm ha hdb he hpl
end
/-! statements -/
section
variable {e tg iter : Expr} {es : List Expr} {ce : Code} {la : LCode} {p pos pos' : Pos} {nm : Str} {g : GCode} {cb : SCode} {body : List Stmt}
theorem gexpr {c : Code} (he : Snd T X W e c) (hs : swapsWith e none pos.line X.env = pure false := by rfl) : SndS T X W (.Expr e pos) (sExpr c) := snds_expr he hs
theorem gset {i : Nat} {c : Code} (x : Cx1 T X W) (he : Snd T X W e c) (hi : X.N[i]? = some nm := by rfl) (hx : Loc X.env.scope nm := by exact .inl rfl) (hs : swapsWith e (some (.Name nm pos')) pos.line X.env = pure false := by rfl) (hf : X.fn nm = true ∨ X.env.scope.names.lookup nm = some .local := by exact .inr rfl) :
    SndS T X W (.Assign [.Name nm pos'] e pos) (sAsg c (gVar i)) := snds_set x.hN hi hx he hs hf
theorem gaug {i : Nat} {c : Code} {op : Operator} {o : Op2} (x : Cx1 T X W) (ho : OpR X (inplaceOp op) (RdO T o)) (he : Snd T X W e c) (hi : X.N[i]? = some nm := by rfl) (hx : Loc X.env.scope nm := by exact .inl rfl) (hf : X.fn nm = true ∨ X.env.scope.names.lookup nm = some .local := by exact .inr rfl) :
    SndS T X W (.AugAssign (.Name nm pos') op e pos) (sAug i o c) := snds_aug x.hN hi hx he ho hf
theorem gasg {c : Code} (he : Snd T X W e c) (hg : SndG T X W tg g) (hs : swapsWithSole [tg] e pos.line X.env = pure false := by rfl) (hw : swappedStores [tg] e X.env = pure none := by rfl) (h1 : (assignEach [tg] X.env).map (·.2) = [assign tg X.env] := by rfl) : SndS T X W (.Assign [tg] e pos) (sAsg c g) := snds_asg he hg hs hw h1
theorem ggv {i : Nat} (x : Cx1 T X W) (hi : X.N[i]? = some nm := by rfl) (hx : Loc X.env.scope nm := by exact .inl rfl) (hf : X.fn nm = true ∨ X.env.scope.names.lookup nm = some .local := by exact .inr rfl) : SndG T X W (.Name nm pos) (gVar i) := sndg_var x.hN hi hx hf
theorem ggs {g : GCode} {r : GsCode} (h1 : SndG T X W e g) (h2 : SndGs T X W es r) (hs : (assignEach (e :: es) X.env).map (·.2) = assign e X.env :: (assignEach es X.env).map (·.2) := by rfl) : SndGs T X W (e :: es) (gConss g r) := sndgs_cons h1 h2 hs
theorem gbv {vs : List Nat} {i : Nat} (x : Cx1 T X W) (hm : i ∈ vs := by decide) (hi : X.N[i]? = some nm := by rfl) (hx : Loc X.env.scope nm := by exact .inl rfl) (hf : X.fn nm = true ∨ X.env.scope.names.lookup nm = some .local := by exact .inr rfl) : SndGv T X vs (.Name nm pos) (gVar i) := sndgv_var hm x.hN hi hx hf
theorem gbs {vs : List Nat} {g : GCode} {r : GsCode} (h1 : SndGv T X vs e g) (h2 : SndGvs T X vs es r) (hs : (assignEach (e :: es) X.env).map (·.2) = assign e X.env :: (assignEach es X.env).map (·.2) := by rfl) : SndGvs T X vs (e :: es) (gConss g r) := sndgvs_cons h1 h2 hs
theorem gpar {i j : Nat} {nx ny : Str} {a b : Expr} {ca : LCode} {px py pt : Pos} {kt k2 pt2} (x : Cx1 T X W) (ha : SndA T X W [a, b] ca) (hi : X.N[i]? = some nx := by rfl) (hj : X.N[j]? = some ny := by rfl) (hij : i ≠ j := by decide)
    (hx : X.env.scope.names.lookup nx = some .local := by rfl) (hy : X.env.scope.names.lookup ny = some .local := by rfl)
    (hw : swappedStores [.Tuple [.Name nx px, .Name ny py] kt pt] (.Tuple [a, b] k2 pt2) X.env = pure (some [nx, ny]) := by rfl)
    (hs : swapsWithSole [.Tuple [.Name nx px, .Name ny py] kt pt] (.Tuple [a, b] k2 pt2) pos.line X.env = pure false := by rfl) :
    SndS T X W (.Assign [.Tuple [.Name nx px, .Name ny py] kt pt] (.Tuple [a, b] k2 pt2) pos) (sPar i j ca) := snds_par x.hc x.hN hi hj hij hx hy ha hw hs
theorem gpar3 {i j l : Nat} {nx ny nz : Str} {a b c : Expr} {ca : LCode} {px py pz pt : Pos} {kt k2 pt2} (x : Cx1 T X W) (ha : SndA T X W [a, b, c] ca) (hi : X.N[i]? = some nx := by rfl) (hj : X.N[j]? = some ny := by rfl) (hl : X.N[l]? = some nz := by rfl) (hij : i ≠ j := by decide) (hil : i ≠ l := by decide) (hjl : j ≠ l := by decide)
    (hx : X.env.scope.names.lookup nx = some .local := by rfl) (hy : X.env.scope.names.lookup ny = some .local := by rfl) (hz : X.env.scope.names.lookup nz = some .local := by rfl)
    (hw : swappedStores [.Tuple [.Name nx px, .Name ny py, .Name nz pz] kt pt] (.Tuple [a, b, c] k2 pt2) X.env = pure (some [nx, ny, nz]) := by rfl)
    (hs : swapsWithSole [.Tuple [.Name nx px, .Name ny py, .Name nz pz] kt pt] (.Tuple [a, b, c] k2 pt2) pos.line X.env = pure false := by rfl) :
    SndS T X W (.Assign [.Tuple [.Name nx px, .Name ny py, .Name nz pz] kt pt] (.Tuple [a, b, c] k2 pt2) pos) (sPar3 i j l ca) := snds_par3 x.hc x.hN hi hj hl hij hil hjl hx hy hz ha hw hs
theorem gfor {ci : ICode} (x : Cx1 T X W) (hp : PassesOwn (model X.prog X.w) X.A X.env X.xe) (hi : SndI T X W tg iter ci) (hg : SndG T X W tg g) (hb : SndSs T X W body cb) (hfs : ∀ x, foldedSetIterable iter X.env x = pure x := by intro _; rfl) : SndS T X W (.For tg iter body [] pos) (sFor ci g cb) := snds_for hp x.hc hi hg hb hfs
theorem gsub {oe ie : Expr} {co ci : Code} (x : Cx1 T X W) (ho : Snd T X W oe co) (hi : Snd T X W ie ci)
    (ha : ∀ v, assign (.Subscript oe ie pos) X.env v = (do
      let ov ← holding [v] (eval oe X.env)
      let iv ← holding [v, ov] (eval ie X.env)
      standAt pos
      holding [v, ov, iv] (setItem ov iv v)
      release [v, ov, iv] []) := by intro _; rfl) : SndG T X W (.Subscript oe ie pos) (gSubC co ci oSet) := sndg_sub ho hi (set_oSet x.hw (by have := x.hu; omega)) ha
end
/-! iterables -/
section
variable {tg e e2 a b : Expr} {c c2 : Code} {ca : LCode} {p pos tpos apos cpos : Pos} {elts : List Expr} {kk : Nat}
theorem genu (x : Cx1 T X W) (he : Snd T X W e c) (hg : Gl X "enumerate" := by rfl) (hs : starEach [e] X.env = (false, eval e X.env) :: starEach [] X.env := by rfl) : SndI T X W (.Tuple elts kk tpos) (.Call (.Name "enumerate" p) [e] [] pos) (iEnu c) := sndi_enu hg (x.fr _ (by decide)) he hs
theorem gzip (x : Cx1 T X W) (he : Snd T X W e c) (he2 : Snd T X W e2 c2) (hg : Gl X "zip" := by rfl) (hs : starEach [e, e2] X.env = (false, eval e X.env) :: starEach [e2] X.env := by rfl) (hpl : (backTo pos (starEach [e2] X.env)).any (·.1) = false := by rfl) (hs2 : starEach [e2] X.env = (false, eval e2 X.env) :: starEach [] X.env := by rfl) :
    SndI T X W (.Tuple elts kk tpos) (.Call (.Name "zip" p) [e, e2] [] pos) (iZip c c2) := sndi_zip hg (x.fr _ (by decide)) he he2 hs hpl hs2
theorem grng1 (x : Cx1 T X W) (ha : SndA T X W [a] ca) (hg : Gl X "range" := by rfl) (hs : starEach [a] X.env = [(false, eval a X.env)] := by rfl) : SndI T X W tg (.Call (.Name "range" p) [a] [] pos) (iRng1 ca) := sndi_rng1 hg (x.fr _ (by decide)) ha hs
theorem grng2 (x : Cx1 T X W) (ha : SndA T X W [a, b] ca) (hg : Gl X "range" := by rfl) (hs : starEach [a, b] X.env = [(false, eval a X.env), (false, eval b X.env)] := by rfl) (hs2 : starEach [b] X.env = [(false, eval b X.env)] := by rfl) : SndI T X W tg (.Call (.Name "range" p) [a, b] [] pos) (iRng2 ca) := sndi_rng2 hg (x.fr _ (by decide)) ha hs hs2
theorem gvalues (he : Snd T X W e c) (hbase : attributeBase e "values" X.env (eval e X.env) = eval e X.env := by rfl) (hline : (apos.endLine == cpos.line) = true := by rfl) : SndI T X W tg (.Call (.Attribute e "values" apos) [] [] cpos) (iValues c) := sndi_values he hbase hline
theorem gitems (he : Snd T X W e c) (hbase : attributeBase e "items" X.env (eval e X.env) = eval e X.env := by rfl) (hline : (apos.endLine == cpos.line) = true := by rfl) : SndI T X W (.Tuple elts kk tpos) (.Call (.Attribute e "items" apos) [] [] cpos) (iItems c) := sndi_items he hbase hline
end
/-! classes -/
theorem cx_no {P : Program} {w : World} {outer : List Env} : ∀ (H : Hp) (s : Shared) (e : Value) (s' : Shared), L2.CX P w outer H s E0 e s' → False := fun _ _ _ _ ⟨_, _, _, _, _, _, _, _, _, _, _, _, z⟩ => z
structure PropG (P : Program) (w : World) (K : PySem.W.Frag) (mg : Str → Option Value) (base : Heap) (C : Addr) (f : Str) (k : Nat) (sp : Sp) : Prop where
  cls : SCls K C
  at' : ∃ p g, PySem.W.findIn K (.ref C) f = some (some (.ref p)) ∧ PySem.W.specialIn K (.ref p) "__get__" = some (some (.builtin "property.__get__")) ∧ PySem.W.takesIn K (.ref p) = some true ∧
    (∃ rest, PySem.W.recIn K p "property" = some (.ref g :: rest)) ∧ FnR P w K mg base (L2.CX P w) k g sp
structure MethG (P : Program) (w : World) (K : PySem.W.Frag) (mg : Str → Option Value) (base : Heap) (C : Addr) (m : Str) (k : Nat) (sp : Sp) : Prop where
  cls : SCls K C
  at' : ∃ g, Meth K C m g ∧ FnR P w K mg base (L2.CX P w) k g sp
structure MakeG (P : Program) (w : World) (K : PySem.W.Frag) (mg : Str → Option Value) (base : Heap) (C : Addr) (k : Nat) (sp : Sp) : Prop where
  at' : ∃ g fd ps, Mk K C g ∧ FnOk P w K mg base (L2.CX P w) k g fd ps sp ∧ Binds K fd ps []
theorem PropG.at (p : PropG X.prog X.w X.K X.mg X.base C f k sp) (hr : Room (k + 1) X.A) : PropAt X (L2.CX X.prog X.w) C f sp :=
  let ⟨a, g, h1, h2, h3, h4, h5⟩ := p.at'; ⟨p.cls, a, g, k, h1, h2, h3, h4, h5, hr⟩
theorem MethG.at (p : MethG X.prog X.w X.K X.mg X.base C f k sp) (hr : Room k X.A) : MethAt X (L2.CX X.prog X.w) C f sp :=
  let ⟨g, h1, h2⟩ := p.at'; ⟨p.cls, g, k, h1, h2, hr⟩
theorem MakeG.at (p : MakeG X.prog X.w X.K X.mg X.base C k sp) (hr : Room (k + 1) X.A) : MakeAt X (L2.CX X.prog X.w) C sp :=
  let ⟨g, fd, ps, h1, h2, h3⟩ := p.at'; ⟨g, k, fd, ps, h1, h2, h3, hr⟩
section
variable {e o v : Expr} {es : List Expr} {f m nm : Str} {ce co cv : Code} {ca : LCode} {p pos pos' apos : Pos}
theorem gattr {sl : List (Nat × Nat)} {pr : List (Nat × FCode)} (he : Snd T X W e ce) (hs : ∀ c i, (c, i) ∈ sl → SlotAt X.K (T.cls c) f i) (hp : ∀ c fc, (c, fc) ∈ pr → PropAt X (L2.CX X.prog X.w) (T.cls c) f (spOf T 1 fc))
    (hb : attributeBase e f X.env (eval e X.env) = eval e X.env := by rfl) : Snd T X W (.Attribute e f pos) (eAttr sl pr ce) := snd_attr he cx_no hb hs hp
theorem gslot {sl : List (Nat × Nat)} (ho : Snd T X W o co) (hv : Snd T X W v cv) (hs : ∀ c i, (c, i) ∈ sl → SlotAt X.K (T.cls c) f i) (hw : swapsWith v (some (.Attribute o f pos')) pos.line X.env = pure false := by rfl) :
    SndS T X W (.Assign [.Attribute o f pos'] v pos) (sSlot sl co cv) := snds_slot ho hv hs hw
theorem gmeth {pl : Sem Bool} {tb : List (Nat × FCode)} {n : Nat} (x : Cx1 T X W) (he : Snd T X W o co) (ha : SndA T X W (e :: es) ca) (hm : ∀ c fc, (c, fc) ∈ tb → MethAt X (L2.CX X.prog X.w) (T.cls c) m (spOf T (n + 1) fc)) (hn : es.length + 1 = n := by rfl)
    (hst : starEach (e :: es) X.env = (false, eval e X.env) :: starEach es X.env := by rfl) (hpl : (backTo pos (starEach es X.env)).any (·.1) = false := by rfl)
    (ht : eval (.Call (.Attribute o m apos) (e :: es) [] pos) X.env = (do
      let ov ← eval o X.env
      standAt apos.atName
      let (f, first) ← holding [ov] (getMethod ov m pl)
      callWith pos f first (backTo pos (starEach (e :: es) X.env)) (backToKw pos (keywordEach [] X.env))) := by rfl) : Snd T X W (.Call (.Attribute o m apos) (e :: es) [] pos) (eMeth tb co ca) := snd_meth he (fun σ => L2.passAt x.tk σ) ha hm hn hst hpl ht
theorem gmeth0 {pl : Sem Bool} {tb : List (Nat × FCode)} (x : Cx1 T X W) (he : Snd T X W o co) (hm : ∀ c fc, (c, fc) ∈ tb → MethAt X (L2.CX X.prog X.w) (T.cls c) m (spOf T 1 fc))
    (ht : eval (.Call (.Attribute o m apos) [] [] pos) X.env = (do
      let ov ← eval o X.env
      standAt apos.atName
      let (f, first) ← holding [ov] (getMethod ov m pl)
      callWith pos f first (backTo pos (starEach [] X.env)) (backToKw pos (keywordEach [] X.env))) := by rfl) : Snd T X W (.Call (.Attribute o m apos) [] [] pos) (eMeth tb co aNil) := snd_meth0 he (fun σ => L2.passAt x.tk σ) hm ht
theorem gmake {c n z : Nat} {fc : FCode} (x : Cx1 T X W) (M : MakeAt X (L2.CX X.prog X.w) (T.cls c) (spOf T n fc)) (hm : X.mg nm = some (.ref (T.cls c))) (ha : SndA T X W (e :: es) ca) (hz : T.nsl c = z + 1) (hn : es.length + 2 = n := by rfl) (hg : Gl X nm := by rfl)
    (hdb : (nm == ("__debug__" : Str)) = false := by decide) (he : starEach (e :: es) X.env = (false, eval e X.env) :: starEach es X.env := by rfl) (hpl : (backTo pos (starEach es X.env)).any (·.1) = false := by rfl) :
    Snd T X W (.Call (.Name nm p) (e :: es) [] pos) (eMake c (List.replicate (z + 1) none) fc ca) := snd_make M hg hm (fun σ => L2.passAt x.tk σ) ha hn hz hdb he hpl
theorem gisi {cn : Str} {p2 : Pos} {nc : Nat} {acc : List Nat} {c : V} {u : Value} (x : Cx1 T X W) (ok : IsiOk X.K T nc u acc) (hu : ClsV c u) (hc : PE X (.Name cn p2) (tC c)) (he : Snd T X W e ce) (hg : Gl X "isinstance" := by rfl)
    (hst : starEach [e, .Name cn p2] X.env = (false, eval e X.env) :: starEach [.Name cn p2] X.env := by rfl) (hst2 : starEach [.Name cn p2] X.env = (false, eval (.Name cn p2) X.env) :: starEach [] X.env := by rfl) (hpl : (backTo pos (starEach [.Name cn p2] X.env)).any (·.1) = false := by rfl) :
    Snd T X W (.Call (.Name "isinstance" p) [e, .Name cn p2] [] pos) (eUn (oIsi nc acc) ce) := snd_isi ok hu hc hg (x.fr _ (by decide)) he hst hst2 hpl
theorem gbm {fs fl fd : Option OpM} (ho : Snd T X W o co) (ha : SndA T X W (e :: es) ca) (h1 : ∀ k, fs = some k → BMeth X T "str" m (RdM T k)) (h2 : ∀ k, fl = some k → BMeth X T "list" m (RdM T k)) (h3 : ∀ k, fd = some k → BMeth X T "dict" m (RdM T k))
    (hbase : attributeBase o m X.env (eval o X.env) = eval o X.env := by rfl)
    (hfew : ((backTo pos (starEach (e :: es) X.env)).all (fun x => !x.1) && (backToKw pos (keywordEach [] X.env)).all (fun x => x.1.isSome)
      && decide ((e :: es).length + ([] : List Keyword).length + (if ([] : List Keyword).isEmpty then 0 else 1) < 30)) = true := by rfl)
    (hline : (apos.endLine == pos.line) = true := by rfl) (hs : starEach (e :: es) X.env = (false, eval e X.env) :: starEach es X.env := by rfl) (hplain : (backTo pos (starEach es X.env)).any (·.1) = false := by rfl) :
    Snd T X W (.Call (.Attribute o m apos) (e :: es) [] pos) (eBm fs fl fd co ca) := snd_bm h1 h2 h3 ho ha hbase hfew hline hs hplain
theorem gbm0 {fs fl fd : Option OpM} (ho : Snd T X W o co) (h1 : ∀ k, fs = some k → BMeth X T "str" m (RdM T k)) (h2 : ∀ k, fl = some k → BMeth X T "list" m (RdM T k)) (h3 : ∀ k, fd = some k → BMeth X T "dict" m (RdM T k))
    (hbase : attributeBase o m X.env (eval o X.env) = eval o X.env := by rfl) (hline : (apos.endLine == pos.line) = true := by rfl) : Snd T X W (.Call (.Attribute o m apos) [] [] pos) (eBm fs fl fd co aNil) := snd_bm0 h1 h2 h3 ho hbase hline
end
/-! comprehensions -/
section
variable {elt kx vx tg iter tg1 iter1 : Expr} {ifs ifs1 : List Expr} {scope : Scope} {pos spos py : Pos} {mk : Bool} {ci ci1 : ICode} {g g1 : GCode} {t t1 : TCode} {ce ck cv : Code} {i : Nat} {y : Str}
theorem glc (own : List (Str × Nat)) (x : Cx1 T X W) (hi : SndI T X W tg iter ci) (hg : ∀ (s : Shared) (H : Hp) (C : Addr) (cl : List (Str × Addr)) (fp : List Addr), SndGv T (X.blk s H scope (compEnvC scope cl C X.env) fp) (own.map (·.2)) tg g) (ht : ∀ (s : Shared) (H : Hp) (C : Addr) (cl : List (Str × Addr)) (fp : List Addr), SndTs T (X.blk s H scope (compEnvC scope cl C X.env) fp) W0 ifs t) (he : ∀ (s : Shared) (H : Hp) (C : Addr) (cl : List (Str × Addr)) (fp : List Addr), Snd T (X.blk s H scope (compEnvC scope cl C X.env) fp) W0 elt ce)
    (hb : blkC X.N X.env.scope scope own = true := by rfl) (hs : ∀ x, foldedSetIterable iter X.env x = pure x := by intro _; rfl) : Snd T X W (.ListComp elt [⟨tg, iter, ifs, 0⟩] scope pos) (eLc mk ci (own.map (·.2)) g t ce) := snd_lc x.hc x.hN hi (blkOk_by hb) hg ht he hs
theorem gsetlc (own : List (Str × Nat)) (x : Cx1 T X W) (hi : SndI T X W tg iter ci) (hg : ∀ (s : Shared) (H : Hp) (C : Addr) (cl : List (Str × Addr)) (fp : List Addr), SndGv T (X.blk s H scope (compEnvC scope cl C X.env) fp) (own.map (·.2)) tg g) (ht : ∀ (s : Shared) (H : Hp) (C : Addr) (cl : List (Str × Addr)) (fp : List Addr), SndTs T (X.blk s H scope (compEnvC scope cl C X.env) fp) W0 ifs t) (he : ∀ (s : Shared) (H : Hp) (C : Addr) (cl : List (Str × Addr)) (fp : List Addr), Snd T (X.blk s H scope (compEnvC scope cl C X.env) fp) W0 elt ce)
    (hy : X.N[i]? = some y := by rfl) (hyl : X.env.scope.names.lookup y = some .local := by rfl) (hsw : swapsWith (.ListComp elt [⟨tg, iter, ifs, 0⟩] scope pos) (some (.Name y py)) spos.line X.env = pure true := by rfl)
    (hb : blkC X.N X.env.scope scope own = true := by rfl) (hs : ∀ x, foldedSetIterable iter X.env x = pure x := by intro _; rfl) :
    SndS T X W (.Assign [.Name y py] (.ListComp elt [⟨tg, iter, ifs, 0⟩] scope pos) spos) (sAsg (eLc mk ci (own.map (·.2)) g t ce) (gVar i)) := snds_setLc x.hc x.hN hy hyl hsw hi (blkOk_by hb) hg ht he hs
theorem glc2 (own : List (Str × Nat)) (vs1 : List Nat) (x : Cx1 T X W) (hi : SndI T X W tg iter ci) (hg : ∀ (s : Shared) (H : Hp) (C : Addr) (cl : List (Str × Addr)) (fp : List Addr), SndGv T (X.blk s H scope (compEnvC scope cl C X.env) fp) (own.map (·.2)) tg g) (ht : ∀ (s : Shared) (H : Hp) (C : Addr) (cl : List (Str × Addr)) (fp : List Addr), SndTs T (X.blk s H scope (compEnvC scope cl C X.env) fp) W0 ifs t)
    (hi1 : ∀ (s : Shared) (H : Hp) (C : Addr) (cl : List (Str × Addr)) (fp : List Addr), SndI T (X.blk s H scope (compEnvC scope cl C X.env) fp) W0 tg1 iter1 ci1) (hg1 : ∀ (s : Shared) (H : Hp) (C : Addr) (cl : List (Str × Addr)) (fp : List Addr), SndGv T (X.blk s H scope (compEnvC scope cl C X.env) fp) vs1 tg1 g1) (ht1 : ∀ (s : Shared) (H : Hp) (C : Addr) (cl : List (Str × Addr)) (fp : List Addr), SndTs T (X.blk s H scope (compEnvC scope cl C X.env) fp) W0 ifs1 t1) (he : ∀ (s : Shared) (H : Hp) (C : Addr) (cl : List (Str × Addr)) (fp : List Addr), Snd T (X.blk s H scope (compEnvC scope cl C X.env) fp) W0 elt ce)
    (hb : blkC X.N X.env.scope scope own = true := by rfl) (hv : ∀ i ∈ vs1, i ∈ own.map (·.2) := by decide) (hs : ∀ x, foldedSetIterable iter X.env x = pure x := by intro _; rfl) (hs1 : ∀ env x, foldedSetIterable iter1 env x = pure x := by intro _ _; rfl) :
    Snd T X W (.ListComp elt [⟨tg, iter, ifs, 0⟩, ⟨tg1, iter1, ifs1, 0⟩] scope pos) (eLc2 mk ci (own.map (·.2)) g t ci1 vs1 g1 t1 ce) := snd_lc2 x.hc x.hN hi (blkOk_by hb) hv hg ht he hs hi1 hg1 ht1 hs1
theorem gsetlc2 (own : List (Str × Nat)) (vs1 : List Nat) (x : Cx1 T X W) (hi : SndI T X W tg iter ci) (hg : ∀ (s : Shared) (H : Hp) (C : Addr) (cl : List (Str × Addr)) (fp : List Addr), SndGv T (X.blk s H scope (compEnvC scope cl C X.env) fp) (own.map (·.2)) tg g) (ht : ∀ (s : Shared) (H : Hp) (C : Addr) (cl : List (Str × Addr)) (fp : List Addr), SndTs T (X.blk s H scope (compEnvC scope cl C X.env) fp) W0 ifs t)
    (hi1 : ∀ (s : Shared) (H : Hp) (C : Addr) (cl : List (Str × Addr)) (fp : List Addr), SndI T (X.blk s H scope (compEnvC scope cl C X.env) fp) W0 tg1 iter1 ci1) (hg1 : ∀ (s : Shared) (H : Hp) (C : Addr) (cl : List (Str × Addr)) (fp : List Addr), SndGv T (X.blk s H scope (compEnvC scope cl C X.env) fp) vs1 tg1 g1) (ht1 : ∀ (s : Shared) (H : Hp) (C : Addr) (cl : List (Str × Addr)) (fp : List Addr), SndTs T (X.blk s H scope (compEnvC scope cl C X.env) fp) W0 ifs1 t1) (he : ∀ (s : Shared) (H : Hp) (C : Addr) (cl : List (Str × Addr)) (fp : List Addr), Snd T (X.blk s H scope (compEnvC scope cl C X.env) fp) W0 elt ce)
    (hy : X.N[i]? = some y := by rfl) (hyl : X.env.scope.names.lookup y = some .local := by rfl) (hsw : swapsWith (.ListComp elt [⟨tg, iter, ifs, 0⟩, ⟨tg1, iter1, ifs1, 0⟩] scope pos) (some (.Name y py)) spos.line X.env = pure true := by rfl)
    (hb : blkC X.N X.env.scope scope own = true := by rfl) (hv : ∀ i ∈ vs1, i ∈ own.map (·.2) := by decide) (hs : ∀ x, foldedSetIterable iter X.env x = pure x := by intro _; rfl) (hs1 : ∀ env x, foldedSetIterable iter1 env x = pure x := by intro _ _; rfl) :
    SndS T X W (.Assign [.Name y py] (.ListComp elt [⟨tg, iter, ifs, 0⟩, ⟨tg1, iter1, ifs1, 0⟩] scope pos) spos) (sAsg (eLc2 mk ci (own.map (·.2)) g t ci1 vs1 g1 t1 ce) (gVar i)) := snds_setLc2 x.hc x.hN hy hyl hsw hi (blkOk_by hb) hv hg ht he hs hi1 hg1 ht1 hs1
theorem gdc (own : List (Str × Nat)) (x : Cx1 T X W) (hi : SndI T X W tg iter ci) (hg : ∀ (s : Shared) (H : Hp) (C : Addr) (cl : List (Str × Addr)) (fp : List Addr), SndGv T (X.blk s H scope (compEnvC scope cl C X.env) fp) (own.map (·.2)) tg g) (ht : ∀ (s : Shared) (H : Hp) (C : Addr) (cl : List (Str × Addr)) (fp : List Addr), SndTs T (X.blk s H scope (compEnvC scope cl C X.env) fp) W0 ifs t) (hk : ∀ (s : Shared) (H : Hp) (C : Addr) (cl : List (Str × Addr)) (fp : List Addr), Snd T (X.blk s H scope (compEnvC scope cl C X.env) fp) W0 kx ck) (he : ∀ (s : Shared) (H : Hp) (C : Addr) (cl : List (Str × Addr)) (fp : List Addr), Snd T (X.blk s H scope (compEnvC scope cl C X.env) fp) W0 vx cv)
    (hb : blkC X.N X.env.scope scope own = true := by rfl) (hs : ∀ x, foldedSetIterable iter X.env x = pure x := by intro _; rfl) : Snd T X W (.DictComp kx vx [⟨tg, iter, ifs, 0⟩] scope pos) (eDc ci (own.map (·.2)) g t ck cv) := snd_dc x.hw (by have := x.hu; omega) x.hc x.hN hi (blkOk_by hb) hg ht hk he hs
theorem gdc2 (own : List (Str × Nat)) (vs1 : List Nat) (x : Cx1 T X W) (hi : SndI T X W tg iter ci) (hg : ∀ (s : Shared) (H : Hp) (C : Addr) (cl : List (Str × Addr)) (fp : List Addr), SndGv T (X.blk s H scope (compEnvC scope cl C X.env) fp) (own.map (·.2)) tg g) (ht : ∀ (s : Shared) (H : Hp) (C : Addr) (cl : List (Str × Addr)) (fp : List Addr), SndTs T (X.blk s H scope (compEnvC scope cl C X.env) fp) W0 ifs t)
    (hi1 : ∀ (s : Shared) (H : Hp) (C : Addr) (cl : List (Str × Addr)) (fp : List Addr), SndI T (X.blk s H scope (compEnvC scope cl C X.env) fp) W0 tg1 iter1 ci1) (hg1 : ∀ (s : Shared) (H : Hp) (C : Addr) (cl : List (Str × Addr)) (fp : List Addr), SndGv T (X.blk s H scope (compEnvC scope cl C X.env) fp) vs1 tg1 g1) (ht1 : ∀ (s : Shared) (H : Hp) (C : Addr) (cl : List (Str × Addr)) (fp : List Addr), SndTs T (X.blk s H scope (compEnvC scope cl C X.env) fp) W0 ifs1 t1) (hk : ∀ (s : Shared) (H : Hp) (C : Addr) (cl : List (Str × Addr)) (fp : List Addr), Snd T (X.blk s H scope (compEnvC scope cl C X.env) fp) W0 kx ck) (he : ∀ (s : Shared) (H : Hp) (C : Addr) (cl : List (Str × Addr)) (fp : List Addr), Snd T (X.blk s H scope (compEnvC scope cl C X.env) fp) W0 vx cv)
    (hb : blkC X.N X.env.scope scope own = true := by rfl) (hv : ∀ i ∈ vs1, i ∈ own.map (·.2) := by decide) (hs : ∀ x, foldedSetIterable iter X.env x = pure x := by intro _; rfl) (hs1 : ∀ env x, foldedSetIterable iter1 env x = pure x := by intro _ _; rfl) :
    Snd T X W (.DictComp kx vx [⟨tg, iter, ifs, 0⟩, ⟨tg1, iter1, ifs1, 0⟩] scope pos) (eDc2 ci (own.map (·.2)) g t ci1 vs1 g1 t1 ck cv) := snd_dc2 x.hw (by have := x.hu; omega) x.hc x.hN hi (blkOk_by hb) hv hg ht hk he hs hi1 hg1 ht1 hs1
end
end SW
end
section
/-! The script: its length, a cell of it. -/
namespace SW
open PySem PySem.Spec PyProof.Rows L2 SlX
variable {T : Tab} {O : Out} {ρ ρ1 ρ' : List Addr} {F F1 F' : Fz} {H H1 H' : Hp} {h h1 : CH} {s : SW.St} {σ : L2.St} {k : K} {x : KX} {Q : VK} {W : WX} {X : Cx} {E : XK}
theorem RV.scr_inv (hs : ∀ a ns, T.scr a ns → ∀ H, SqL X.K H a (ns.map V.int)) {v : V} (r : RV T ρ F H (.rng (.ofNat 0) (.ofNat 0)) v) : ∃ (a : Addr) (ns : List Int), v = .ref a ∧ ns.length ≤ 63 ∧ SqL X.K H a (ns.map V.int) := by
  cases r with
  | imm r =>
    cases r with
    | rng p =>
      rcases p with ⟨a, _⟩ | ⟨_, a, _⟩
      · exact absurd a (by decide)
      · exact absurd a (by decide)
    | scr f e n => exact ⟨_, _, rfl, n, .inl (.inr ⟨_, e⟩)⟩
    | scrK e n => exact ⟨_, _, rfl, n, hs _ _ e H⟩
theorem isScr_some {d : DV} {y z : A} (e : isScr d y z = some O) : (d = .rng (.ofNat 0) (.ofNat 0) ∧ y = some O) ∨ z = some O := by
  cases d with
  | rng lo hi =>
    rcases bsel2_some (show bsel (iEq lo (.ofNat 0)) _ z = some O from e) with ⟨b, e1⟩ | ⟨b, e1⟩
    · rcases bsel2_some e1 with ⟨b2, e2⟩ | ⟨b2, e2⟩
      · rw [iEq_eq] at b b2
        exact .inl ⟨by rw [eq_of_beq b, eq_of_beq b2], e2⟩
      · exact .inr e2
    · exact .inr e1
  | _ => exact .inr e
theorem cb_lenR (hs : ∀ a ns, T.scr a ns → ∀ H, SqL X.K H a (ns.map V.int)) : CallR X (.builtin "len") (RdB T oLenR) := by
  intro pins s σ H vs us Q I r hq
  obtain ⟨O, ρ, F, ds, h, k, rp, rv, e, pk⟩ := hq
  obtain ⟨d, rfl, e⟩ := arg1_some e
  obtain ⟨v, rfl, rd⟩ := rv.one
  rcases isScr_some e with ⟨ed, e1⟩ | e1
  · subst ed
    obtain ⟨a, ns, ev, n, hS⟩ := rd.scr_inv hs
    refine call_len_seq pins s σ H [v] us Q I r ⟨a, _, by rw [ev], .inl hS, ?_⟩
    have e2 := kG_some e1
    refine pk.now rp e2 (.rng (.inl ⟨by decide, ?_, ?_⟩))
    · exact Int.natCast_nonneg _
    · rw [List.length_map]
      have : Int.ofNat 64 = 64 := rfl
      omega
  · exact cb_len pins s σ H [v] us Q I r ⟨O, ρ, F, [d], h, k, rp, rv, e1, pk⟩
noncomputable section
/-- int(script[spot]) if spot < len(script) else .. -/
def eCellAt (i j : Nat) (ce : Code) : Code := fun s h k x => nthK s i fun a => onSome a fun a => isScr a (nthK s j fun b => onSome b fun b => dInt b fun n => bsel (iLe (.ofNat 0) n) (both2 (kAny h k) (ce s h k x)) none) none
end
theorem snd_cellAt {els : Expr} {ce : Code} {sc sp : Str} {p1 p2 p3 p4 p5 p6 p7 p8 p9 p10 p11 : Pos} {i j : Nat} (hs : ∀ a ns, T.scr a ns → ∀ H, SqL X.K H a (ns.map V.int)) (c : Cx1 T X W)
    (hi : X.N[i]? = some sc) (hj : X.N[j]? = some sp) (vi : Vis X.env.scope sc) (vj : Vis X.env.scope sp) (di : (sc == ("__debug__" : Str)) = false) (dj : (sp == ("__debug__" : Str)) = false) (ci : (sc == ("__classdict__" : Str)) = false) (cj : (sp == ("__classdict__" : Str)) = false)
    (gl : Gl X "len") (gi : Gl X "int") (bl : bootBuiltins "len" = some (.builtin "len")) (bi : bootBuiltins "int" = some (.type "int")) (he : Snd T X W els ce)
    (hm : behindInMarks .Lt (.Call (.Name "len" p2) [.Name sc p3] [] p4) = false)
    (h1 : starEach [.Name sc p3] X.env = (false, eval (.Name sc p3) X.env) :: starEach [] X.env) (h3 : starEach [.Subscript (.Name sc p7) (.Name sp p8) p9] X.env = (false, eval (.Subscript (.Name sc p7) (.Name sp p8) p9) X.env) :: starEach [] X.env) (hpx : PlainIx (.Name sp p8)) :
    Snd T X W (.IfExp (.Compare (.Name sp p1) [.Lt] [.Call (.Name "len" p2) [.Name sc p3] [] p4] p5) (.Call (.Name "int" p6) [.Subscript (.Name sc p7) (.Name sp p8) p9] [] p10) els p11) (eCellAt i j ce) := by
  refine PE.imp (pe_ifExp (pt_cmpR op_lt (pe_var hj vj dj cj) (pe_callB call_len_seq gl (c.fr _ (by decide)) bl (pa_cons (pe_var hi vi di ci) pa_nil h1) (by decide) (by decide) h1 rfl) hm)
    (pe_callTy call_int1 gi (c.fr _ (by decide)) bi (pa_cons (pe_ix ix_list (pe_var hi vi di ci) (pe_var hj vj dj cj) hpx) pa_nil h3) (by decide) (by decide) h3 rfl) he) fun σ H Q hq => ?_
  obtain ⟨O, ρ, F, s, h, k, x, rp, rs, e, pk, px⟩ := hq
  obtain ⟨o, e1, e⟩ := nthK_some e
  obtain ⟨d, e2, e⟩ := onSome_some e
  subst e2
  rcases isScr_some e with ⟨ed, e⟩ | e
  · subst ed
    obtain ⟨o, e3, e⟩ := nthK_some e
    obtain ⟨d, e4, e⟩ := onSome_some e
    subst e4
    obtain ⟨n, ed, e⟩ := dInt_some e
    subst ed
    obtain ⟨b, e⟩ := bsel_some e
    rw [iLe_eq] at b
    have hn : (0 : Int) ≤ n := of_decide_eq_true b
    obtain ⟨e5, e6⟩ := both2_some e
    obtain ⟨u, eu, ru⟩ := rs.2 i _ e1
    obtain ⟨v, ev, rv⟩ := rs.2 j _ e3
    obtain ⟨a, ns, ea, hl, hS⟩ := ru.scr_inv hs
    have en := rv.int_inv
    subst ea en
    refine ⟨_, ev, _, eu, a, _, rfl, .inl hS, _, _, rfl, rfl, _, rfl, ?_⟩
    by_cases z : n < ((ns.map V.int).length : Int)
    · rw [decide_eq_true z]
      show if true = true then _ else _
      rw [if_pos rfl]
      rw [List.length_map] at z
      have hm : n.toNat < ns.length := by omega
      refine ⟨_, eu, _, ev, a, _, n, .int ns[n.toNat], rfl, rfl, hS, ?_, .inl ⟨_, rfl, kAny_some rp e5 pk⟩⟩
      have q := atI_nat (xs := ns.map V.int) (j := n.toNat) (v := .int ns[n.toNat]) (by rw [List.getElem?_map, List.getElem?_eq_getElem hm] <;> rfl)
      rw [Int.toNat_of_nonneg hn] at q
      exact q
    · rw [decide_eq_false z]
      show if false = true then _ else _
      rw [if_neg Bool.false_ne_true]
      exact ⟨O, ρ, F, s, h, k, x, rp, rs, e6, pk, px⟩
  · cases e
/-! ### contracts by evaluation -/
noncomputable section
def anyD : DV := .rng (.negSucc 0) (.negSucc 0)
/-- an int, known or not -/
def isNum (d : DV) : Bool := @DV.rec (fun _ => Bool) (fun _ => Unit) false (fun _ => false) (fun _ => true) (fun _ => false) (fun _ _ => false) (fun _ _ => false) (fun _ _ _ => false) (fun lo hi => @Bool.rec (fun _ => Bool) (iLt hi (.ofNat 0)) true (iLt lo hi)) (fun _ => false) () (fun _ _ _ _ => ()) d
def num3 (l : List DV) : Bool := @List.rec DV (fun _ => Bool) false (fun a l _ => @List.rec DV (fun _ => Bool) false (fun b l _ => @List.rec DV (fun _ => Bool) false (fun c l _ => @List.rec DV (fun _ => Bool) (@Bool.rec (fun _ => Bool) false (@Bool.rec (fun _ => Bool) false (isNum c) (isNum b)) (isNum a)) (fun _ _ _ => false) l) l) l) l
def is3 (mo : MO) (y : A) : A := mLst mo fun _ l => bsel (num3 l) y none
/-- from 0 to t - 1 -/
def inT0 (t : Int) (d : DV) : Bool := @DV.rec (fun _ => Bool) (fun _ => Unit) false (fun _ => false) (fun i => @Bool.rec (fun _ => Bool) false (iLt i t) (iLe (.ofNat 0) i)) (fun _ => false) (fun _ _ => false) (fun _ _ => false) (fun _ _ _ => false) (fun lo hi => @Bool.rec (fun _ => Bool) false (@Bool.rec (fun _ => Bool) false (iLe hi t) (iLe (.ofNat 0) lo)) (iLt lo hi)) (fun _ => false) () (fun _ _ _ _ => ()) d
/-- what the roll must end with -/
def kRoll (t : Int) : K := fun d h => nthK h 0 fun mo => is3 mo (bsel (inT0 t d) yesA none)
def rollOk (c : FCode) (t : Int) : Bool := isT (c [.ref 0, .int t] [.lst 3 [anyD, anyD, anyD]] (kRoll t) noX)
/-- a number from 0 to t - 1, not known; the dice are thrown -/
def rollC (m : Nat) : FCode := fun ds h k x => @List.rec DV (fun _ => A) none (fun d r _ => @List.rec DV (fun _ => A) none (fun e r _ => @List.rec DV (fun _ => A) (dCell d fun i => nthK h i fun mo => is3 mo (dInt e fun t => bsel (iLt (.ofNat 0) t) (bsel (iLe t (.ofNat m)) (putK h i (.lst 3 [anyD, anyD, anyD]) fun h => k (.rng (.ofNat 0) t) h) none) none)) (fun _ _ _ => none) r) r) ds
end
theorem isNum_ok {d : DV} (e : isNum d = true) : (∃ i, d = .int i) ∨ ∃ lo hi, d = .rng lo hi ∧ (lo < hi ∨ hi < 0) := by
  cases d with
  | int i => exact .inl ⟨i, rfl⟩
  | rng lo hi =>
    refine .inr ⟨lo, hi, rfl, ?_⟩
    have e : @Bool.rec (fun _ => Bool) (iLt hi (.ofNat 0)) true (iLt lo hi) = true := e
    cases z : iLt lo hi with
    | true =>
      rw [iLt_eq] at z
      exact .inl (of_decide_eq_true z)
    | false =>
      rw [z] at e
      have e : iLt hi (.ofNat 0) = true := e
      rw [iLt_eq] at e
      exact .inr (of_decide_eq_true e)
  | _ => cases e
theorem num3_ok {l : List DV} (e : num3 l = true) : ∃ a b c, l = [a, b, c] ∧ isNum a = true ∧ isNum b = true ∧ isNum c = true := by
  match l, e with
  | [a, b, c], e =>
    obtain ⟨e1, e2⟩ := brec_and2 (show @Bool.rec (fun _ => Bool) false _ (isNum a) = true from e)
    obtain ⟨e2, e3⟩ := brec_and2 e2
    exact ⟨a, b, c, rfl, e1, e2, e3⟩
  | [], e => cases e
  | [_], e => cases e
  | [_, _], e => cases e
  | _ :: _ :: _ :: _ :: _, e => cases e
theorem is3_some {mo : MO} {y : A} (e : is3 mo y = some O) : ∃ n a b c, mo = .lst n [a, b, c] ∧ isNum a = true ∧ isNum b = true ∧ isNum c = true ∧ y = some O := by
  obtain ⟨n, l, el, e1⟩ := mLst_some e
  obtain ⟨b1, e2⟩ := bsel_some e1
  obtain ⟨a, b, c, e3, p⟩ := num3_ok b1
  exact ⟨n, a, b, c, by rw [el, e3], p.1, p.2.1, p.2.2, e2⟩
theorem any_rv {i : Int} : RV T ρ F H anyD (.int i) := .imm (.rng (rngP_any i))
theorem any3 {x y z : Int} : RVl T ρ F H [anyD, anyD, anyD] [.int x, .int y, .int z] := .cons any_rv (.cons any_rv (.cons any_rv .nil))
/-- a dice cell holds three ints -/
theorem cell3 {i n : Nat} {a b c : DV} {p : Addr} (m : MOk T ρ F H i p (.lst n [a, b, c])) (ha : isNum a = true) (hb : isNum b = true) (hc : isNum c = true) : ∃ x y z : Int, H p = some (.lst [.int x, .int y, .int z]) := by
  obtain ⟨_, _, vs, e, q⟩ := m
  cases q with
  | cons q1 q => cases q with
    | cons q2 q => cases q with
      | cons q3 q => cases q with
        | nil =>
          obtain ⟨x, e1⟩ := q1.num (isNum_ok ha)
          obtain ⟨y, e2⟩ := q2.num (isNum_ok hb)
          obtain ⟨z, e3⟩ := q3.num (isNum_ok hc)
          exact ⟨x, y, z, by rw [e, e1, e2, e3]⟩
theorem inT0_ok {t : Int} {d : DV} {v : V} (e : inT0 t d = true) (r : RV T ρ F H d v) : ∃ i, v = .int i ∧ 0 ≤ i ∧ i < t := by
  cases d with
  | int i =>
    obtain ⟨e1, e2⟩ := brec_and2 (show @Bool.rec (fun _ => Bool) false _ _ = true from e)
    rw [iLe_eq] at e1
    rw [iLt_eq] at e2
    exact ⟨i, r.int_inv, of_decide_eq_true e1, of_decide_eq_true e2⟩
  | rng lo hi =>
    obtain ⟨e1, e2⟩ := brec_and2 (show @Bool.rec (fun _ => Bool) false _ _ = true from e)
    obtain ⟨e2, e3⟩ := brec_and2 e2
    rw [iLt_eq] at e1
    rw [iLe_eq] at e2 e3
    have h1 := of_decide_eq_true e1
    have h2 : (0 : Int) ≤ lo := of_decide_eq_true e2
    have h3 := of_decide_eq_true e3
    obtain ⟨i, ev, p⟩ := r.rng_inv (.inl h1)
    obtain ⟨p1, p2⟩ := rngP_in p h1
    exact ⟨i, ev, by omega, by omega⟩
  | _ => cases e
/-- later, with one cell alone -/
theorem Le.up1 {p : Addr} (hm : p ∈ ρ) (l : Le [p] F H ρ1 F1 H1) (hF : ¬ F1 p) : Le ρ F H ρ F1 H1 :=
  ⟨⟨[], by simp, by simp⟩, fun a o e n => l.frm a o e (fun z => n (by rw [List.mem_singleton.mp z]; exact hm)), l.trk, l.fz, fun a f => (l.fn a f).imp id fun z => z.elim .inl fun m => absurd f (by rw [List.mem_singleton.mp m]; exact hF), l.fr⟩
theorem sp_roll {c : FCode} {m : Nat} {vs : List V} (ok : ∀ t, t ≤ m → 0 < t → rollOk c (.ofNat t) = true) (hsp : spOf T 2 (rollC m) vs H Q E) : spOf T 2 c vs H Q E := by
  obtain ⟨hn, O, ρ, F, ds, h, k, x, rp, rv, e, pk, px⟩ := hsp
  match ds, rv, e with
  | [], _, e => cases e
  | [_], _, e => cases e
  | _ :: _ :: _ :: _, _, e => cases e
  | [d, e0], rv, e =>
    obtain ⟨v, w, rfl, r1, r2⟩ := rv.two
    obtain ⟨i, ed, f1⟩ := dCell_some (show dCell d _ = some O from e)
    subst ed
    obtain ⟨mo, em, f2⟩ := nthK_some f1
    obtain ⟨n, a, b, c0, emo, na, nb, nc, f3⟩ := is3_some f2
    subst emo
    obtain ⟨t, et, f4⟩ := dInt_some f3
    subst et
    obtain ⟨b1, f5⟩ := bsel_some f4
    obtain ⟨b2, f6⟩ := bsel_some f5
    obtain ⟨hi, f7⟩ := putK_some f6
    rw [iLt_eq] at b1
    rw [iLe_eq] at b2
    have h1 : (0 : Int) < t := of_decide_eq_true b1
    have h2 : t ≤ Int.ofNat m := of_decide_eq_true b2
    obtain ⟨p, ev, ep⟩ := r1.ref_inv
    obtain ⟨p', ep', mk⟩ := rp.cells i _ em
    rw [ep] at ep'
    cases ep'
    obtain ⟨y1, y2, y3, eH⟩ := cell3 mk na nb nc
    have hm : p ∈ ρ := List.mem_of_getElem? ep
    have nF : ¬ F p := rp.nf i p _ ep em rfl
    have ew := r2.int_inv
    subst ev ew
    obtain ⟨tn, rfl⟩ : ∃ tn : Nat, t = .ofNat tn := ⟨t.toNat, (Int.toNat_of_nonneg (Int.le_of_lt h1)).symm⟩
    have ok1 := isT_some (ok tn (Int.ofNat_le.mp h2) (Int.ofNat_lt.mp h1))
    have rp1 : Rep T [p] F H [.lst 3 [anyD, anyD, anyD]] := by
      refine ⟨by simp, fun a ha => ?_, fun j a mo ej e2 u => ?_, rp.ft, fun j mo ej => ?_, rfl, fun j c l ej => ?_⟩
      · rw [List.mem_singleton.mp ha, eH]; simp
      · cases j with
        | zero => cases ej; exact nF
        | succ j => cases ej
      · cases j with
        | zero =>
          cases ej
          exact ⟨p, rfl, by decide, by decide, _, eH, any3⟩
        | succ j => cases ej
      · cases j with
        | zero => cases ej
        | succ j => cases ej
    refine ⟨rfl, .ret (.bl true), [p], F, [.ref 0, .int (.ofNat tn)], _, _, _, rp1, .cons (.ref rfl) (.cons (.imm (.int _)) .nil), ok1, fun d h' e3 ρ1 F1 H1 v l1 r3 rd => ?_, PostX.no⟩
    obtain ⟨mo, em1, g4⟩ := nthK_some e3
    obtain ⟨n1, a1, b1, c1, emo, na1, nb1, nc1, g5⟩ := is3_some g4
    subst emo
    obtain ⟨e5, _⟩ := bsel_some g5
    obtain ⟨q, eq1, mk1⟩ := r3.cells 0 _ em1
    rw [l1.at (show [p][0]? = some p from rfl)] at eq1
    cases eq1
    obtain ⟨z1, z2, z3, eH1⟩ := cell3 mk1 na1 nb1 nc1
    obtain ⟨r, er, q1, q2⟩ := inT0_ok e5 rd
    have nF1 : ¬ F1 p := r3.nf 0 p _ (l1.at rfl) em1 rfl
    have lu := l1.up1 hm nF1
    have rp2 : Rep T ρ F1 H1 (h.set i (.lst 3 [anyD, anyD, anyD])) := by
      have sm : ∀ y ∈ ρ, y ≠ p → H1 y = H y := fun y hy ny => by
        cases z : H y with
        | none => exact absurd z (rp.trk y hy)
        | some o => exact l1.frm y o z (fun w => ny (List.mem_singleton.mp w))
      refine ⟨rp.nod, fun a ha => l1.trk a (rp.trk a ha), fun j a mo ej e2 u f => ?_, r3.ft, fun j mo ej => ?_, by rw [List.length_set]; exact rp.len, fun j c l ej => ?_⟩
      · by_cases z : i = j
        · subst z
          rw [ep] at ej
          cases ej
          exact nF1 f
        · rw [List.getElem?_set_ne z] at e2
          rcases lu.fn a f with g | g | g
          · exact rp.nf j a mo ej e2 u g
          · exact rp.trk a (List.mem_of_getElem? ej) g
          · rcases l1.fn a f with g | g | g
            · exact rp.nf j a mo ej e2 u g
            · exact rp.trk a (List.mem_of_getElem? ej) g
            · rw [List.mem_singleton.mp g] at ej
              exact z (nodup_at rp.nod ep ej)
      · by_cases z : i = j
        · subst z
          rw [List.getElem?_set_self hi] at ej
          cases ej
          exact ⟨p, ep, by decide, by decide, _, eH1, any3⟩
        · rw [List.getElem?_set_ne z] at ej
          obtain ⟨a, ea, m2⟩ := rp.cells j mo ej
          have na : a ≠ p := fun w => z (nodup_at rp.nod ep (w ▸ ea))
          refine ⟨a, ea, ?_⟩
          have ha : a ∈ ρ := List.mem_of_getElem? ea
          cases mo with
          | dead => trivial
          | gone => trivial
          | lst n l => obtain ⟨b1, b2, vs, e1, q⟩ := m2; exact ⟨b1, b2, vs, by rw [sm a ha na]; exact e1, q.le lu⟩
          | dic b l => exact ⟨fun w => lu.fz a (m2.1 w), m2.2.le lu (sm a ha na)⟩
          | dice => obtain ⟨p1, p2, p3, e1⟩ := m2; exact ⟨p1, p2, p3, by rw [sm a ha na]; exact e1⟩
          | obj c l =>
            obtain ⟨dx, vs, ed, nd, sl, ln, q⟩ := m2
            have hd : dx ∈ ρ := List.mem_of_getElem? ed
            have nd2 : dx ≠ p := fun w => by
              have k2 : i = j + 1 := nodup_at rp.nod ep (w ▸ ed)
              have k3 := rp.dd j c l ej
              rw [← k2, em] at k3
              cases k3
            refine ⟨dx, vs, lu.at ed, nd, ?_, ln, fun j d ej => let ⟨v, ev, rv⟩ := q j d ej; ⟨v, ev, rv.le lu⟩⟩
            rcases sl with ⟨s1, s2⟩ | ⟨s1, s2⟩
            · exact .inl ⟨by rw [sm a ha na]; exact s1, s2⟩
            · exact .inr ⟨by rw [sm a ha na]; exact s1, by rw [sm dx hd nd2]; exact s2⟩
      · by_cases z : i = j
        · subst z
          rw [List.getElem?_set_self hi] at ej
          cases ej
        · rw [List.getElem?_set_ne z] at ej
          have q := rp.dd j c l ej
          by_cases w : i = j + 1
          · subst w
            rw [em] at q
            cases q
          · rw [List.getElem?_set_ne w]; exact q
    exact pk _ _ f7 ρ F1 H1 v lu rp2 (by rw [er]; exact .imm (.rng (.inl ⟨h1, q1, q2⟩)))
/-! ### new dice -/
noncomputable section
def kDice : K := fun d h => dCell d fun i => nthK h i fun mo => is3 mo yesA
def diceOk (c : FCode) (n : Nat) : Bool := isT (c [.rng (.ofNat 0) (.ofNat 0), .int (.ofNat n)] [] kDice noX)
def diceC (m : Nat) : FCode := fun ds h k x => @List.rec DV (fun _ => A) none (fun d r _ => @List.rec DV (fun _ => A) none (fun e r _ => @List.rec DV (fun _ => A) (isScr d (dInt e fun n => bsel (iLe (.ofNat 0) n) (bsel (iLt n (.ofNat m)) (lenK h 0 fun l => appK h [.lst 3 [anyD, anyD, anyD]] fun h => k (.ref l) h) none) none) none) (fun _ _ _ => none) r) r) ds
end
theorem sp_dice {c : FCode} {m : Nat} {vs : List V} (ok : ∀ n, n < m → diceOk c n = true) (hsp : spOf T 2 (diceC m) vs H Q E) : spOf T 2 c vs H Q E := by
  obtain ⟨hn, O, ρ, F, ds, h, k, x, rp, rv, e, pk, px⟩ := hsp
  match ds, rv, e with
  | [], _, e => cases e
  | [_], _, e => cases e
  | _ :: _ :: _ :: _, _, e => cases e
  | [d, e0], rv, e =>
    obtain ⟨v, w, rfl, r1, r2⟩ := rv.two
    rcases isScr_some (show isScr d _ none = some O from e) with ⟨ed, f1⟩ | f1
    · subst ed
      obtain ⟨n, en, f2⟩ := dInt_some f1
      subst en
      obtain ⟨b1, f3⟩ := bsel_some f2
      obtain ⟨b2, f4⟩ := bsel_some f3
      rw [iLe_eq] at b1
      rw [iLt_eq] at b2
      have h1 : (0 : Int) ≤ n := of_decide_eq_true b1
      have h2 : n < Int.ofNat m := of_decide_eq_true b2
      obtain ⟨nn, rfl⟩ : ∃ nn : Nat, n = .ofNat nn := ⟨n.toNat, (Int.toNat_of_nonneg h1).symm⟩
      rw [lenK_eq, Nat.zero_add, appK_eq] at f4
      have ok1 := isT_some (ok nn (Int.ofNat_lt.mp h2))
      refine ⟨rfl, .ret (.bl true), [], F, [.rng (.ofNat 0) (.ofNat 0), .int (.ofNat nn)], [], _, _, rp.nil, .cons (.imm (r1.imm_of rfl)) (.cons (.imm (r2.imm_of rfl)) .nil), ok1, fun d h' e3 ρ1 F1 H1 v1 l1 r3 rd => ?_, PostX.no⟩
      obtain ⟨i, ei, g1⟩ := dCell_some (show dCell d _ = some _ from e3)
      subst ei
      obtain ⟨mo, em1, g2⟩ := nthK_some g1
      obtain ⟨n1, a1, c1, c2, emo, na1, nb1, nc1, _⟩ := is3_some g2
      subst emo
      obtain ⟨p, mp, mk⟩ := r3.cells i _ em1
      obtain ⟨p', ev, mp'⟩ := rd.ref_inv
      rw [mp] at mp'
      cases mp'
      obtain ⟨z1, z2, z3, eH1⟩ := cell3 mk na1 nb1 nc1
      have nF1 : ¬ F1 p := r3.nf i p _ mp em1 rfl
      have pn : H p = none := by
        obtain ⟨t, et, ht⟩ := l1.pre
        refine ht p ?_
        have := List.mem_of_getElem? mp
        rw [et] at this
        simpa using this
      have pρ : p ∉ ρ := fun z => rp.trk p z pn
      have lu : Le ρ F H ρ F1 H1 := l1.up
      have ru := rp.up l1 r3.ft
      have ra := ru.adopt pρ nF1 eH1 (l := [anyD, anyD, anyD]) (n := 3) (Nat.le_refl _) (by decide) any3
      have le : Le ρ F H (ρ ++ [p]) F1 H1 := ⟨⟨[p], rfl, fun a ha => by rw [List.mem_singleton.mp ha]; exact pn⟩, lu.frm, lu.trk, lu.fz, lu.fn, lu.fr⟩
      exact pk _ _ f4 (ρ ++ [p]) F1 H1 v1 le ra (by rw [ev]; exact .ref (by rw [rp.len, List.getElem?_append_right (Nat.le_refl _), Nat.sub_self]; rfl))
    · cases f1
/-! ### a def that answers True -/
noncomputable section
def cutT (D : List DV → Bool) : FCode := fun ds h k x => nrs ds (bsel (D ds) (k (.bl true) h) none)
end
theorem sp_cut {c : FCode} {n : Nat} {D : List DV → Bool} {vs : List V} (ok : ∀ (F : Fz) (H : Hp) (ds : List DV) (vs : List V), D ds = true → RVs T F H ds vs → ∃ ds', RVs T F H ds' vs ∧ isT (c ds' [] kRet kExc) = true) (hsp : spOf T n (cutT D) vs H Q E) : spOf T n c vs H Q E := by
  obtain ⟨hn, O, ρ, F, ds, h, k, x, rp, rv, e, pk, px⟩ := hsp
  obtain ⟨nd, e⟩ := nrs_some e
  obtain ⟨b, e⟩ := bsel_some e
  obtain ⟨ds', rv', e1⟩ := ok F H ds vs b (rv.imm nd)
  refine ⟨hn, .ret (.bl true), [], F, ds', [], kRet, kExc, rp.nil, rv'.rvl, isT_some e1, fun d h' e3 ρ1 F1 H1 v l1 r1 r => ?_, fun ci fs h' e3 => ?_⟩
  · obtain ⟨nd, e4⟩ := bsel_some e3
    cases e4
    exact pk _ h e ρ F1 H1 v l1.up (rp.up l1 r1.ft) (.imm (r.imm_of nd))
  · obtain ⟨_, e4⟩ := nrs_some e3
    cases e4
end SW
end
section
/-! What a law's head tells: defs (by any path), classes with slots, properties, isinstance, constants. -/
noncomputable section
namespace SW
open PySem PySem.Spec PyProof.Rows L2 SlX
/-! ### the own classes -/
def mkTab (w : World) (cs : List (Str × Nat)) (K : PySem.W.Frag) : Tab := ⟨w, fun c => He.ga K (cs.getD c ("", 0)).1, fun c => (cs.getD c ("", 0)).2, fun _ => 0, fun _ => [], fun a ns => ∀ H, SqL K H a (ns.map V.int)⟩
/-! ### facts -/
inductive TyF where
  | ty (n : String) | cl (x : Str)
def TyF.v (K : PySem.W.Frag) : TyF → Value
  | .ty n => .type n
  | .cl x => .ref (He.ga K x)
/-- the getter of a property -/
def gAd (K : PySem.W.Frag) (C f : Str) : Addr := match PySem.W.recIn K (He.ma K (He.ga K C) f) "property" with
  | some (.ref g :: _) => g
  | _ => 0
inductive Fy where
  | bi (x : Str) (id : String)
  | scls (C : Str)
  | slot (C f : Str) (i : Nat)
  | prop (C f : Str)
  | isi (cs : List (Str × Nat)) (nc : Nat) (u : TyF) (acc : List Nat)
def tyC' (cls : Nat → Addr) : Nat → Value
  | 0 => .type "NoneType"
  | 1 => .type "bool"
  | 2 => .type "int"
  | 3 => .type "str"
  | 4 => .type "tuple"
  | 5 => .type "list"
  | n => .ref (cls (n - 10))
theorem tyC_eq (T : Tab) (n : Nat) : tyC T n = tyC' T.cls n := by
  match n with
  | 0 => rfl
  | 1 => rfl
  | 2 => rfl
  | 3 => rfl
  | 4 => rfl
  | 5 => rfl
  | _ + 6 => rfl
def sclsB (K : PySem.W.Frag) (C : Addr) : Bool := PySem.W.plainGet K C Str.empty && (PySem.W.isClsIn K C && (PySem.W.plainOver K C && He.eqO (PySem.W.findIn K (.ref C) "__setattr__") (some (some (.builtin "object.__setattr__")))))
theorem sclsB_ok {K : PySem.W.Frag} {C : Addr} (h : sclsB K C = true) : SCls K C := by
  obtain ⟨c1, h⟩ := He.ba h
  obtain ⟨c2, h⟩ := He.ba h
  obtain ⟨c3, c4⟩ := He.ba h
  exact ⟨c1, c2, c3, He.eqO_ok c4⟩
def sisiB (K : PySem.W.Frag) (C : Addr) : Bool := He.eqO (PySem.W.findIn K (.ref C) "__class__") (some (some (.builtin "object.__class__"))) && (He.eqO (PySem.W.specialIn K (.builtin "object.__class__") "__get__") (some (some (.builtin "getset_descriptor.__get__"))) &&
  (decide (PySem.W.takesIn K (.builtin "object.__class__") = some true) && decide (PySem.W.mroIn K C (.type "object") = some true)))
theorem sisiB_ok {K : PySem.W.Frag} {C : Addr} (h : sisiB K C = true) : SIsi K C := by
  obtain ⟨c1, h⟩ := He.ba h
  obtain ⟨c2, h⟩ := He.ba h
  obtain ⟨c3, c4⟩ := He.ba h
  exact ⟨He.eqO_ok c1, He.eqO_ok c2, of_decide_eq_true c3, of_decide_eq_true c4⟩
def Fy.ok (K : PySem.W.Frag) : Fy → Bool
  | .bi x id => He.eqO (PySem.W.nsIn K mainGlobals x) (some (some (.builtin id)))
  | .scls C => sclsB K (He.ga K C)
  | .slot C f i => He.eqO (PySem.W.findIn K (.ref (He.ga K C)) f) (some (some (.ref (He.ma K (He.ga K C) f)))) && (He.eqO (PySem.W.specialIn K (.ref (He.ma K (He.ga K C) f)) "__get__") (some (some (.builtin "member_descriptor.__get__"))) &&
    (decide (PySem.W.takesIn K (.ref (He.ma K (He.ga K C) f)) = some true) && (decide (PySem.W.typeIn K (.ref (He.ma K (He.ga K C) f)) = some (.type "member_descriptor")) && (decide (PySem.W.slotIn K (He.ma K (He.ga K C) f) (He.ga K C) = some i) && decide (i < 1000)))))
  | .prop C f => He.eqO (PySem.W.findIn K (.ref (He.ga K C)) f) (some (some (.ref (He.ma K (He.ga K C) f)))) && (He.eqO (PySem.W.specialIn K (.ref (He.ma K (He.ga K C) f)) "__get__") (some (some (.builtin "property.__get__"))) &&
    (decide (PySem.W.takesIn K (.ref (He.ma K (He.ga K C) f)) = some true) && (match PySem.W.recIn K (He.ma K (He.ga K C) f) "property" with
      | some (.ref g :: _) => decide (g = gAd K C f)
      | _ => false)))
  | .isi cs nc u acc => ((List.range 6).all fun n => decide (PySem.W.kitOne K (tyC' (fun c => He.ga K (cs.getD c ("", 0)).1) n) (u.v K) = some (anyNat n acc))) &&
    ((List.range nc).all fun c => decide (PySem.W.kitOne K (.ref (He.ga K (cs.getD c ("", 0)).1)) (u.v K) = some (anyNat (10 + c) acc)) && (sclsB K (He.ga K (cs.getD c ("", 0)).1) && sisiB K (He.ga K (cs.getD c ("", 0)).1)))
section
variable {K : PySem.W.Frag} {h : Heap} {mg : Str → Option Value} {w : World}
theorem bi_ok (X : K.In h) (G : h.Ns mainGlobals mg) {x : Str} {id : String} (c : (Fy.bi x id).ok K = true) : mg x = some (.builtin id) := PySem.W.mg_of X G (He.eqO_ok c)
theorem scls_ok {C : Str} (c : (Fy.scls C).ok K = true) : SCls K (He.ga K C) := sclsB_ok c
theorem slot_ok {C f : Str} {i : Nat} (c : (Fy.slot C f i).ok K = true) : Slot1 K (He.ga K C) f (He.ma K (He.ga K C) f) i := by
  obtain ⟨c1, c⟩ := He.ba c
  obtain ⟨c2, c⟩ := He.ba c
  obtain ⟨c3, c⟩ := He.ba c
  obtain ⟨c4, c⟩ := He.ba c
  obtain ⟨c5, c6⟩ := He.ba c
  exact ⟨He.eqO_ok c1, He.eqO_ok c2, of_decide_eq_true c3, of_decide_eq_true c4, of_decide_eq_true c5, of_decide_eq_true c6⟩
theorem slotAt_ok {C f : Str} {i : Nat} (s : (Fy.scls C).ok K = true) (c : (Fy.slot C f i).ok K = true) : SlotAt K (He.ga K C) f i := ⟨scls_ok s, _, slot_ok c⟩
theorem prop_ok {C f : Str} (c : (Fy.prop C f).ok K = true) : PySem.W.findIn K (.ref (He.ga K C)) f = some (some (.ref (He.ma K (He.ga K C) f))) ∧ PySem.W.specialIn K (.ref (He.ma K (He.ga K C) f)) "__get__" = some (some (.builtin "property.__get__")) ∧
    PySem.W.takesIn K (.ref (He.ma K (He.ga K C) f)) = some true ∧ ∃ rest, PySem.W.recIn K (He.ma K (He.ga K C) f) "property" = some (.ref (gAd K C f) :: rest) := by
  obtain ⟨c1, c⟩ := He.ba c
  obtain ⟨c2, c⟩ := He.ba c
  obtain ⟨c3, c⟩ := He.ba c
  refine ⟨He.eqO_ok c1, He.eqO_ok c2, of_decide_eq_true c3, ?_⟩
  split at c
  · rename_i g rest e
    exact ⟨rest, by rw [e, of_decide_eq_true c]⟩
  · cases c
theorem isi_ok {cs : List (Str × Nat)} {nc : Nat} {u : TyF} {acc : List Nat} (c : (Fy.isi cs nc u acc).ok K = true) : IsiOk K (mkTab w cs K) nc (u.v K) acc := by
  obtain ⟨c1, c2⟩ := He.ba c
  refine ⟨fun n hn => ?_, fun i hi => ?_⟩
  · rw [tyC_eq]
    exact of_decide_eq_true (List.all_eq_true.mp c1 n (List.mem_range.mpr hn))
  · obtain ⟨d1, d⟩ := He.ba (List.all_eq_true.mp c2 i (List.mem_range.mpr hi))
    obtain ⟨d2, d3⟩ := He.ba d
    exact ⟨of_decide_eq_true d1, sclsB_ok d2, sisiB_ok d3⟩
end
/-! ### defs by any path -/
structure DefY where
  at_ : PySem.W.Frag → Addr
  name : Str
  qual : Str
  params : Arguments
  body : List Stmt
  scope : Scope
  dfl : List He.Dv := []
def fnY (K : PySem.W.Frag) (a : Addr) : He.FnW := match K.lookup a with
  | some ⟨_, _, .func fd, _⟩ => some (fd.name, fd.qualname, fd.params, fd.body, fd.scope, fd.globals, fd.closure, fd.builtins)
  | _ => none
def DefY.val (d : DefY) : He.FnW := some (d.name, d.qual, d.params, .stmts d.body, d.scope, mainGlobals, [], builtinsNs)
def DefY.dvs (K : PySem.W.Frag) (d : DefY) : List V := d.dfl.map (He.Dv.v K)
def DefY.ok (K : PySem.W.Frag) (d : DefY) : Bool := PySem.W.keepIn K (.ref (d.at_ K)) && (match K.lookup (d.at_ K) with
  | some ⟨_, _, .func fd, _⟩ => PySem.W.codeIn K fd.code d.qual && He.dflB K fd.defaults (d.dvs K)
  | _ => false)
theorem DefY.funD {K : PySem.W.Frag} {d : DefY} (e : fnY K (d.at_ K) = d.val) (c : d.ok K = true) : ∃ fd, FunD K d.name d.qual d.params d.body d.scope (d.dvs K) [] (d.at_ K) fd := by
  obtain ⟨kp, c2⟩ := He.ba c
  unfold fnY at e
  cases q : K.lookup (d.at_ K) with
  | none =>
    rw [q] at c2
    cases c2
  | some o =>
    obtain ⟨oc, od, dt, osl⟩ := o
    rw [q] at c2 e
    cases dt with
    | func fd =>
      obtain ⟨n1, n2, n3, n4, n5, n6, n7, n8, n9, n10, n11, n12, n13, n14, n15⟩ := fd
      have e2 : (some (n1, n2, n3, n4, n5, n6, n7, n15) : He.FnW) = some (d.name, d.qual, d.params, .stmts d.body, d.scope, mainGlobals, [], builtinsNs) := e
      simp only [Option.some.injEq, Prod.mk.injEq] at e2
      obtain ⟨h1, h2, h3, h4, h5, h6, h7, h8⟩ := e2
      subst h1 h2 h3 h4 h5 h6 h7 h8
      have c3 : (PySem.W.codeIn K n13 d.qual && He.dflB K n8 (d.dvs K)) = true := c2
      obtain ⟨k1, k2⟩ := He.ba c3
      exact ⟨_, ⟨oc, od, n8, n9, n10, n11, n12, n13, n14, osl, rfl, q, k1, He.dflB_ok k2, .inl rfl⟩, kp⟩
    | _ => cases c2
/-! ### the Hook -/
abbrev AlY : Type := Bool × List He.FnW
def obsY (fa : List He.Fa) (fy : List Fy) (fn : List DefY) (K : PySem.W.Frag) : AlY := ((fa.all fun f => f.ok K) && ((fy.all fun f => f.ok K) && fn.all fun d => d.ok K), fn.map fun d => fnY K (d.at_ K))
def valY (fn : List DefY) : AlY := (true, fn.map DefY.val)
def SaysY (fa : List He.Fa) (fy : List Fy) (fn : List DefY) (K : PySem.W.Frag) : Prop := obsY fa fy fn K = valY fn
/-- what the facts look at: values of dicts, what a def and a class name, a property's defs -/
def refsY (o : Obj) : List Addr := match o.data with
  | .dict es _ => es.toList.flatMap fun e => He.refV e.val
  | .func fd => He.refV fd.code ++ He.refV fd.defaults
  | .cls cd => cd.ns :: cd.mro.flatMap He.refV
  | .fields vs => (match o.cls with
    | .type c => (match decide (c = "property") with
      | true => vs.toList.flatMap He.refV
      | false => [])
    | _ => [])
  | _ => []
/-- not yet seen -/
def addY (seen : List Addr) : List Addr → List Addr → List Addr
  | [], acc => acc
  | a :: r, acc => match (seen.any fun b => Nat.beq a b) || acc.any fun b => Nat.beq a b with
    | true => addY seen r acc
    | false => addY seen r (acc ++ [a])
/-- in rounds: all that is seen, the newest -/
def asY (g : Addr → Option Obj) : Nat → List Addr → List Addr → List Addr
  | 0, seen, _ => seen
  | n + 1, seen, new => match addY seen (new.flatMap fun a => match g a with
      | some o => refsY o
      | none => []) [] with
    | more => asY g n (seen ++ more) more
def obsYG (n : Nat) (fa : List He.Fa) (fy : List Fy) (fn : List DefY) (g : Addr → Option Obj) : AlY := obsY fa fy fn (He.frG g (asY g n [mainGlobals] [mainGlobals]))
def hookY (n : Nat) (fa : List He.Fa) (fy : List Fy) (fn : List DefY) : PySem.W.Hook where
  α := AlY
  obs := fun s => obsYG n fa fy fn s.heap.get?
  val := fun _ => valY fn
  says := fun _ h => ∃ K : PySem.W.Frag, K.In h ∧ SaysY fa fy fn K
  of := fun _ _ e => ⟨_, He.frG_in, e⟩
  keeps := fun _ _ _ ⟨K, hK, c⟩ k => ⟨K, PySem.W.Frag.In.keeps hK k, c⟩
theorem obsYG_eq {n : Nat} {fa : List He.Fa} {fy : List Fy} {fn : List DefY} {g : Addr → Option Obj} {s : Shared} (h : ∀ a, g a = s.heap.get? a) : obsYG n fa fy fn g = (hookY n fa fy fn).obs s := by
  have e : g = s.heap.get? := funext h
  rw [e] <;> rfl
section
variable {fa : List He.Fa} {fy : List Fy} {fn : List DefY} {K : PySem.W.Frag}
theorem SaysY.fact (c : SaysY fa fy fn K) (i : Nat) {f : He.Fa} (h : fa[i]? = some f := by rfl) : f.ok K = true := by
  have c1 := (He.ba (show ((fa.all fun f => f.ok K) && ((fy.all fun f => f.ok K) && fn.all fun d => d.ok K)) = true from congrArg (fun z : AlY => z.1) c)).1
  exact List.all_eq_true.mp c1 f (List.mem_of_getElem? h)
theorem SaysY.fy_ (c : SaysY fa fy fn K) (i : Nat) {f : Fy} (h : fy[i]? = some f := by rfl) : f.ok K = true := by
  have c1 := (He.ba (He.ba (show ((fa.all fun f => f.ok K) && ((fy.all fun f => f.ok K) && fn.all fun d => d.ok K)) = true from congrArg (fun z : AlY => z.1) c)).2).1
  exact List.all_eq_true.mp c1 f (List.mem_of_getElem? h)
theorem SaysY.def_ (c : SaysY fa fy fn K) (i : Nat) {d : DefY} (h : fn[i]? = some d := by rfl) : ∃ fd, FunD K d.name d.qual d.params d.body d.scope (d.dvs K) [] (d.at_ K) fd := by
  have c2 := (He.ba (He.ba (show ((fa.all fun f => f.ok K) && ((fy.all fun f => f.ok K) && fn.all fun d => d.ok K)) = true from congrArg (fun z : AlY => z.1) c)).2).2
  have e : fn.map (fun d => fnY K (d.at_ K)) = fn.map DefY.val := congrArg (fun z : AlY => z.2) c
  have e2 : (fn.map fun d => fnY K (d.at_ K))[i]? = (fn.map DefY.val)[i]? := by rw [e]
  rw [List.getElem?_map, List.getElem?_map, h] at e2
  exact DefY.funD (Option.some.inj e2) (List.all_eq_true.mp c2 d (List.mem_of_getElem? h))
end
/-! ### what the proofs of the defs lean on -/
structure Ev (fa : List He.Fa) (fy : List Fy) (fn : List DefY) (w : World) (K : PySem.W.Frag) (mg : Str → Option Value) : Prop where
  ns : ∃ h : Heap, K.In h ∧ h.Ns mainGlobals mg
  c : SaysY fa fy fn K
section
variable {fa : List He.Fa} {fy : List Fy} {fn : List DefY} {w : World} {K : PySem.W.Frag} {mg : Str → Option Value}
theorem Ev.glo (v : Ev fa fy fn w K mg) (i : Nat) {x : Str} (h : fa[i]? = some (.glo x) := by rfl) : mg x = some (.ref (He.ga K x)) := let ⟨_, X, G⟩ := v.ns; He.glo_ok X G (v.c.fact i h)
theorem Ev.free (v : Ev fa fy fn w K mg) (i : Nat) {x : Str} (h : fa[i]? = some (.free x) := by rfl) : mg x = none := let ⟨_, X, G⟩ := v.ns; He.free_ok X G (v.c.fact i h)
theorem Ev.int (v : Ev fa fy fn w K mg) (i : Nat) {x : Str} {n : Int} (h : fa[i]? = some (.int x n) := by rfl) : ∃ u, mg x = some u ∧ RelV (.int n) u := let ⟨_, X, G⟩ := v.ns; let ⟨t, e⟩ := He.int_ok X G (v.c.fact i h); ⟨_, e, t, rfl⟩
theorem Ev.str (v : Ev fa fy fn w K mg) (i : Nat) {x z : Str} (h : fa[i]? = some (.str x z) := by rfl) : ∃ u, mg x = some u ∧ RelV (.str z) u := let ⟨_, X, G⟩ := v.ns; let ⟨t, e⟩ := He.str_ok X G (v.c.fact i h); ⟨_, e, t, rfl⟩
theorem Ev.bi (v : Ev fa fy fn w K mg) (i : Nat) {x : Str} {id : String} (h : fy[i]? = some (.bi x id) := by rfl) : mg x = some (.builtin id) := let ⟨_, X, G⟩ := v.ns; bi_ok X G (v.c.fy_ i h)
theorem free_all (l : List Str) (hf : l.all (fun x => He.eqO (PySem.W.nsIn K mainGlobals x) (some none)) = true) {h : Heap} (X : K.In h) (G : h.Ns mainGlobals mg) : ∀ nm ∈ l, mg nm = none := fun nm hm => PySem.W.mg_none_of X G (He.eqO_ok (List.all_eq_true.mp hf nm hm))
end
end SW
end
section
/-! name = {..} on one line, the name a local. -/
namespace SW
open PySem PySem.Spec PyProof.Rows L2 SlX
variable {T : Tab} {O : Out} {ρ ρ1 ρ' : List Addr} {F F1 F' : Fz} {H H1 H' : Hp} {h h1 : CH} {s : SW.St} {σ : L2.St} {k : K} {x : KX} {Q : VK} {W : WX} {X : Cx} {E : XK}
section
variable {kx vx tg iter tg1 iter1 : Expr} {ifs ifs1 : List Expr} {scope : Scope} {own : List (Str × Nat)} {vs1 : List Nat} {pos spos py : Pos} {i : Nat} {y : Str}
theorem ps_setDcO {wi : TI} {g : TG} {tt : TT} {tk tv : TE} {put : Addr → TPut} (hc : X.calm = true) (hN : X.N.Nodup) (hy : X.N[i]? = some y) (hyl : X.env.scope.names.lookup y = some .local)
    (hsw : swapsWith (.DictComp kx vx [⟨tg, iter, ifs, 0⟩] scope pos) (some (.Name y py)) spos.line X.env = pure true) (hi : PI X tg iter wi) (ok : BlkOk X.N X.env.scope scope own) (hst : ∀ (D : Addr) (s : Shared) (H : Hp) (ce : Env) (fp : List Addr), PPut (X.blk s H scope ce fp) D (put D))
    (hg : ∀ (s : Shared) (H : Hp) (C : Addr) (cl : List (Str × Addr)) (fp : List Addr), PG (X.blk s H scope (compEnvC scope cl C X.env) fp) tg g) (ht : ∀ (s : Shared) (H : Hp) (C : Addr) (cl : List (Str × Addr)) (fp : List Addr), PTs (X.blk s H scope (compEnvC scope cl C X.env) fp) ifs tt) (hk : ∀ (s : Shared) (H : Hp) (C : Addr) (cl : List (Str × Addr)) (fp : List Addr), PE (X.blk s H scope (compEnvC scope cl C X.env) fp) kx tk) (he : ∀ (s : Shared) (H : Hp) (C : Addr) (cl : List (Str × Addr)) (fp : List Addr), PE (X.blk s H scope (compEnvC scope cl C X.env) fp) vx tv) (hs : ∀ x, foldedSetIterable iter X.env x = pure x) :
    PS X (.Assign [.Name y py] (.DictComp kx vx [⟨tg, iter, ifs, 0⟩] scope pos) spos) (tAsg (tDcO wi g tt tk tv put (own.map (·.2))) (gName i)) := by
  refine ⟨fun pins s σ H D I h => ?_⟩
  rw [exec_Assign_Name_used _ _ _ _ hsw]
  refine wpAny_bind (wpAny_standAt (wpAny_bind ?_))
  show wpAny _ X.A (do let _ ← comprehension (.DictComp kx vx [⟨tg, iter, ifs, 0⟩] scope pos) scope X.env (firstIterPos [⟨tg, iter, ifs, 0⟩] pos) newDict false (eval iter X.env) (some (assign (.Name y py) X.env))) _ _ s
  have h : tDcO wi g tt tk tv put (own.map (·.2)) σ H (fun x H1 => gName i x σ H1 D.nx) := h
  refine wpAny_bind (thn (dc1_core (Qf := fun _ s' => SP X pins D .next s') hc hN I hi ok hst hg ht hk he hs h fun L C s' m H' I' q hn f => ?_) fun _ s' hq => wpAny_pure (wpAny_pure hq))
  show wpAny _ _ (assign (.Name y py) X.env (.ref L)) _ _ _
  refine wpAny_assign_Name (store_ok2 (v := V.ref L) I' hN hy (.inl hyl) rfl (fun s2 I2 ⟨a, sb, ha⟩ => ?_) (.inr hyl))
  obtain ⟨f0, f1, f2, f3, f4, f5⟩ := f
  have haC : C ≠ a := by
    rcases ha with z | z
    · rw [z]; exact f1
    · exact fun e => f4 y a z e.symm
  refine ⟨m, hn.sameBut sb haC, fun h3 sb3 => ?_⟩
  exact ⟨_, H', I2.turned (t' := s2.toks) (fun b o hb e => (sb3.2 b hb).trans e) f0 f1 f3 f4 f5, q⟩
theorem ps_setDcO2 {wi wi1 : TI} {g g1 : TG} {tt tt1 : TT} {tk tv : TE} {put : Addr → TPut} (hc : X.calm = true) (hN : X.N.Nodup) (hy : X.N[i]? = some y) (hyl : X.env.scope.names.lookup y = some .local)
    (hsw : swapsWith (.DictComp kx vx [⟨tg, iter, ifs, 0⟩, ⟨tg1, iter1, ifs1, 0⟩] scope pos) (some (.Name y py)) spos.line X.env = pure true) (hi : PI X tg iter wi) (ok : BlkOk X.N X.env.scope scope own) (hv : ∀ i ∈ vs1, i ∈ own.map (·.2)) (hst : ∀ (D : Addr) (s : Shared) (H : Hp) (ce : Env) (fp : List Addr), PPut (X.blk s H scope ce fp) D (put D))
    (hg : ∀ (s : Shared) (H : Hp) (C : Addr) (cl : List (Str × Addr)) (fp : List Addr), PG (X.blk s H scope (compEnvC scope cl C X.env) fp) tg g) (ht : ∀ (s : Shared) (H : Hp) (C : Addr) (cl : List (Str × Addr)) (fp : List Addr), PTs (X.blk s H scope (compEnvC scope cl C X.env) fp) ifs tt) (hk : ∀ (s : Shared) (H : Hp) (C : Addr) (cl : List (Str × Addr)) (fp : List Addr), PE (X.blk s H scope (compEnvC scope cl C X.env) fp) kx tk) (he : ∀ (s : Shared) (H : Hp) (C : Addr) (cl : List (Str × Addr)) (fp : List Addr), PE (X.blk s H scope (compEnvC scope cl C X.env) fp) vx tv) (hs : ∀ x, foldedSetIterable iter X.env x = pure x)
    (hi1 : ∀ (s : Shared) (H : Hp) (C : Addr) (cl : List (Str × Addr)) (fp : List Addr), PI (X.blk s H scope (compEnvC scope cl C X.env) fp) tg1 iter1 wi1) (hg1 : ∀ (s : Shared) (H : Hp) (C : Addr) (cl : List (Str × Addr)) (fp : List Addr), PG (X.blk s H scope (compEnvC scope cl C X.env) fp) tg1 g1) (ht1 : ∀ (s : Shared) (H : Hp) (C : Addr) (cl : List (Str × Addr)) (fp : List Addr), PTs (X.blk s H scope (compEnvC scope cl C X.env) fp) ifs1 tt1) (hs1 : ∀ env x, foldedSetIterable iter1 env x = pure x) :
    PS X (.Assign [.Name y py] (.DictComp kx vx [⟨tg, iter, ifs, 0⟩, ⟨tg1, iter1, ifs1, 0⟩] scope pos) spos) (tAsg (tDcO2 wi g tt wi1 g1 tt1 tk tv put (own.map (·.2)) vs1) (gName i)) := by
  refine ⟨fun pins s σ H D I h => ?_⟩
  rw [exec_Assign_Name_used _ _ _ _ hsw]
  refine wpAny_bind (wpAny_standAt (wpAny_bind ?_))
  show wpAny _ X.A (do let _ ← comprehension (.DictComp kx vx [⟨tg, iter, ifs, 0⟩, ⟨tg1, iter1, ifs1, 0⟩] scope pos) scope X.env (firstIterPos [⟨tg, iter, ifs, 0⟩, ⟨tg1, iter1, ifs1, 0⟩] pos) newDict false (eval iter X.env) (some (assign (.Name y py) X.env))) _ _ s
  have h : tDcO2 wi g tt wi1 g1 tt1 tk tv put (own.map (·.2)) vs1 σ H (fun x H1 => gName i x σ H1 D.nx) := h
  refine wpAny_bind (thn (dc2_core (Qf := fun _ s' => SP X pins D .next s') hc hN I hi ok hv hst hg ht hk he hs hi1 hg1 ht1 hs1 h fun L C s' m H' I' q hn f => ?_) fun _ s' hq => wpAny_pure (wpAny_pure hq))
  show wpAny _ _ (assign (.Name y py) X.env (.ref L)) _ _ _
  refine wpAny_assign_Name (store_ok2 (v := V.ref L) I' hN hy (.inl hyl) rfl (fun s2 I2 ⟨a, sb, ha⟩ => ?_) (.inr hyl))
  obtain ⟨f0, f1, f2, f3, f4, f5⟩ := f
  have haC : C ≠ a := by
    rcases ha with z | z
    · rw [z]; exact f1
    · exact fun e => f4 y a z e.symm
  refine ⟨m, hn.sameBut sb haC, fun h3 sb3 => ?_⟩
  exact ⟨_, H', I2.turned (t' := s2.toks) (fun b o hb e => (sb3.2 b hb).trans e) f0 f1 f3 f4 f5, q⟩
variable {ci ci1 : ICode} {g g1 : GCode} {t t1 : TCode} {ck cv : Code}
theorem snds_setDc (hw : T.w = X.w) (hu : X.A.units + 10 < cLine) (hc : X.calm = true) (hN : X.N.Nodup) (hy : X.N[i]? = some y) (hyl : X.env.scope.names.lookup y = some .local)
    (hsw : swapsWith (.DictComp kx vx [⟨tg, iter, ifs, 0⟩] scope pos) (some (.Name y py)) spos.line X.env = pure true) (hi : SndI T X W tg iter ci) (ok : BlkOk X.N X.env.scope scope own)
    (hg : ∀ (s : Shared) (H : Hp) (C : Addr) (cl : List (Str × Addr)) (fp : List Addr), SndGv T (X.blk s H scope (compEnvC scope cl C X.env) fp) (own.map (·.2)) tg g) (ht : ∀ (s : Shared) (H : Hp) (C : Addr) (cl : List (Str × Addr)) (fp : List Addr), SndTs T (X.blk s H scope (compEnvC scope cl C X.env) fp) W0 ifs t) (hk : ∀ (s : Shared) (H : Hp) (C : Addr) (cl : List (Str × Addr)) (fp : List Addr), Snd T (X.blk s H scope (compEnvC scope cl C X.env) fp) W0 kx ck) (he : ∀ (s : Shared) (H : Hp) (C : Addr) (cl : List (Str × Addr)) (fp : List Addr), Snd T (X.blk s H scope (compEnvC scope cl C X.env) fp) W0 vx cv) (hs : ∀ x, foldedSetIterable iter X.env x = pure x) :
    SndS T X W (.Assign [.Name y py] (.DictComp kx vx [⟨tg, iter, ifs, 0⟩] scope pos) spos) (sAsg (eDc ci (own.map (·.2)) g t ck cv) (gVar i)) := by
  refine PS.imp (ps_setDcO hc hN hy hyl hsw hi ok (fun D s H ce fp => put_ok hw hu) hg ht hk he hs) fun D σ H hq => ?_
  obtain ⟨O, ρ, F, s, h, n, ks, rp, rs, e, p⟩ := hq
  refine dc_of (RdE.sq rp rs p e fun d h1 ρ1 F1 H1 v e1 r1 rv rs1 p1 => ?_)
  obtain ⟨_, e2⟩ := putK_some e1
  exact p1.nx _ h1 e2 ρ1 F1 H1 _ .refl r1 (rs1.set rv)
theorem snds_setDc2 (hw : T.w = X.w) (hu : X.A.units + 10 < cLine) (hc : X.calm = true) (hN : X.N.Nodup) (hy : X.N[i]? = some y) (hyl : X.env.scope.names.lookup y = some .local)
    (hsw : swapsWith (.DictComp kx vx [⟨tg, iter, ifs, 0⟩, ⟨tg1, iter1, ifs1, 0⟩] scope pos) (some (.Name y py)) spos.line X.env = pure true) (hi : SndI T X W tg iter ci) (ok : BlkOk X.N X.env.scope scope own) (hv : ∀ i ∈ vs1, i ∈ own.map (·.2))
    (hg : ∀ (s : Shared) (H : Hp) (C : Addr) (cl : List (Str × Addr)) (fp : List Addr), SndGv T (X.blk s H scope (compEnvC scope cl C X.env) fp) (own.map (·.2)) tg g) (ht : ∀ (s : Shared) (H : Hp) (C : Addr) (cl : List (Str × Addr)) (fp : List Addr), SndTs T (X.blk s H scope (compEnvC scope cl C X.env) fp) W0 ifs t) (hk : ∀ (s : Shared) (H : Hp) (C : Addr) (cl : List (Str × Addr)) (fp : List Addr), Snd T (X.blk s H scope (compEnvC scope cl C X.env) fp) W0 kx ck) (he : ∀ (s : Shared) (H : Hp) (C : Addr) (cl : List (Str × Addr)) (fp : List Addr), Snd T (X.blk s H scope (compEnvC scope cl C X.env) fp) W0 vx cv) (hs : ∀ x, foldedSetIterable iter X.env x = pure x)
    (hi1 : ∀ (s : Shared) (H : Hp) (C : Addr) (cl : List (Str × Addr)) (fp : List Addr), SndI T (X.blk s H scope (compEnvC scope cl C X.env) fp) W0 tg1 iter1 ci1) (hg1 : ∀ (s : Shared) (H : Hp) (C : Addr) (cl : List (Str × Addr)) (fp : List Addr), SndGv T (X.blk s H scope (compEnvC scope cl C X.env) fp) vs1 tg1 g1) (ht1 : ∀ (s : Shared) (H : Hp) (C : Addr) (cl : List (Str × Addr)) (fp : List Addr), SndTs T (X.blk s H scope (compEnvC scope cl C X.env) fp) W0 ifs1 t1) (hs1 : ∀ env x, foldedSetIterable iter1 env x = pure x) :
    SndS T X W (.Assign [.Name y py] (.DictComp kx vx [⟨tg, iter, ifs, 0⟩, ⟨tg1, iter1, ifs1, 0⟩] scope pos) spos) (sAsg (eDc2 ci (own.map (·.2)) g t ci1 vs1 g1 t1 ck cv) (gVar i)) := by
  refine PS.imp (ps_setDcO2 hc hN hy hyl hsw hi ok hv (fun D s H ce fp => put_ok hw hu) hg ht hk he hs hi1 hg1 ht1 hs1) fun D σ H hq => ?_
  obtain ⟨O, ρ, F, s, h, n, ks, rp, rs, e, p⟩ := hq
  refine dc2_of (RdE.sq rp rs p e fun d h1 ρ1 F1 H1 v e1 r1 rv rs1 p1 => ?_)
  obtain ⟨_, e2⟩ := putK_some e1
  exact p1.nx _ h1 e2 ρ1 F1 H1 _ .refl r1 (rs1.set rv)
end
end SW
end
section
/-! list(range(..)), tuple(range(..)). -/
namespace SW
open PySem PySem.Spec PyProof.Rows L2 SlX
variable {T : Tab} {O : Out} {ρ ρ1 ρ' : List Addr} {F F1 F' : Fz} {H H1 H' : Hp} {h h1 : CH} {s : SW.St} {σ : L2.St} {k : K} {x : KX} {Q : VK} {W : WX} {X : Cx} {E : XK}
noncomputable section
def rngD (lo hi : Int) (f : List DV → A) : A := smallI lo (smallI hi (toN (iSub hi lo) fun n => bsel (Nat.ble n 1000000) (rngF lo n f) none))
def eRg1 (b : Code) (f : List DV → CH → K → A) : Code := fun s h k x => b s h (fun v h => dInt v fun j => rngD (.ofNat 0) j fun l => f l h k) x
def eRg2 (a b : Code) (f : List DV → CH → K → A) : Code := fun s h k x => a s h (fun u h => b s h (fun v h => dInt u fun i => dInt v fun j => rngD i j fun l => f l h k) x) x
def mkT (l : List DV) (h : CH) (k : K) : A := k (.tup l) h
end
theorem rngD_some {lo hi : Int} {f : List DV → A} (e : rngD lo hi f = some O) : (-(2 ^ 62) ≤ lo ∧ lo < 2 ^ 62 ∧ -(2 ^ 62) ≤ hi ∧ hi < 2 ^ 62) ∧ (hi - lo).toNat ≤ mx ∧ f (rngL lo (hi - lo).toNat) = some O := by
  obtain ⟨a, e⟩ := smallI_some e
  obtain ⟨b, e⟩ := smallI_some e
  rw [toN_eq, iSub_eq] at e
  obtain ⟨n, e⟩ := bsel_some e
  rw [rngF_eq] at e
  exact ⟨⟨a.1, a.2, b.1, b.2⟩, Nat.le_of_ble_eq_true n, e⟩
theorem rngL_app : ∀ (n : Nat) (lo : Int), RVs T F H (rngL lo n) ((List.range n).map fun i => V.int (lo + (i : Nat)))
  | 0, _ => .nil
  | n + 1, lo => by
    rw [List.range_succ_eq_map]
    show RVs T F H (.int lo :: rngL (iAdd lo (.ofNat 1)) n) _
    rw [List.map_cons, List.map_map, iAdd_eq]
    refine .cons (by rw [Int.natCast_zero, Int.add_zero]; exact .int _) ?_
    have e : ((fun i : Nat => V.int (lo + (i : Nat))) ∘ Nat.succ) = fun i : Nat => V.int ((lo + Int.ofNat 1) + (i : Nat)) := by
      funext i
      show V.int _ = V.int _
      congr 1
      simp only [Nat.succ_eq_add_one, Int.natCast_add, Int.ofNat_eq_natCast]
      omega
    rw [e]
    exact rngL_app n _
theorem rg_rvs {i j : Int} : RVs T F H (rngL i (j - i).toNat) (L2.rgV i j) := rngL_app _ _
theorem rd_lst {mk : Bool} {l : List DV} {vs : List V} (rp : Rep T ρ F H h) (hn : l.length ≤ mx) (rv : RVs T F H l vs) (e : mkL mk l h k = some O) (pk : PostK T O ρ F H k Q) : ∀ p, H p = none → Q (.ref p) (upd H p (.lst vs)) := post_mk rp hn rv.rvl e pk
theorem rg_line {i j : Int} (b : -(2 ^ 62) ≤ i ∧ i < 2 ^ 62 ∧ -(2 ^ 62) ≤ j ∧ j < 2 ^ 62) (n : (j - i).toNat ≤ mx) : L2.RgOk i j := ⟨b.1, b.2.1, b.2.2.1, b.2.2.2, Nat.le_trans n (by decide)⟩
section
variable {a b : Expr} {ca cb : Code} {p p2 pos pos2 : Pos} {mk : Bool}
theorem rg1_of {f : List DV → CH → K → A} {g : Int → Int → Hp → Prop} (hq : RdE T W (eRg1 cb f) σ H Q)
    (hf : ∀ {O : Out} {ρ : List Addr} {F : Fz} {H : Hp} {h : CH} {k : K} {l : List DV} {i j : Int}, Rep T ρ F H h → l = rngL i (j - i).toNat → l.length ≤ mx → L2.RgOk i j → f l h k = some O → PostK T O ρ F H k Q → g i j H) : L2.tRg1 (RdE T W cb) σ H g := by
  obtain ⟨O, ρ, F, s, h, k, x, rp, rs, e, pk, px⟩ := hq
  refine RdE.seq rp rs e px fun u h1 ρ1 F1 H1 u' e1 l1 r1 ru rs1 px1 => ?_
  obtain ⟨j, ej, e2⟩ := dInt_some e1
  subst ej
  obtain ⟨bb, nn, e3⟩ := rngD_some e2
  exact ⟨j, ru.int_inv, hf r1 rfl (by rw [rngL_len]; exact nn) (rg_line bb nn) e3 (pk.le l1)⟩
theorem rg2_of {f : List DV → CH → K → A} {g : Int → Int → Hp → Prop} (hq : RdE T W (eRg2 ca cb f) σ H Q)
    (hf : ∀ {O : Out} {ρ : List Addr} {F : Fz} {H : Hp} {h : CH} {k : K} {l : List DV} {i j : Int}, Rep T ρ F H h → l = rngL i (j - i).toNat → l.length ≤ mx → L2.RgOk i j → f l h k = some O → PostK T O ρ F H k Q → g i j H) : L2.tRg2 (RdE T W ca) (RdE T W cb) σ H g := by
  obtain ⟨O, ρ, F, s, h, k, x, rp, rs, e, pk, px⟩ := hq
  refine RdE.seq rp rs e px fun u h1 ρ1 F1 H1 u' e1 l1 r1 ru rs1 px1 => ?_
  refine RdE.seq r1 rs1 e1 px1 fun v h2 ρ2 F2 H2 v' e2 l2 r2 rv rs2 px2 => ?_
  obtain ⟨i, ei, e2⟩ := dInt_some e2
  obtain ⟨j, ej, e2⟩ := dInt_some e2
  subst ei ej
  obtain ⟨bb, nn, e3⟩ := rngD_some e2
  exact ⟨i, j, (ru.le l2).int_inv, rv.int_inv, hf r2 rfl (by rw [rngL_len]; exact nn) (rg_line bb nn) e3 (pk.le (l1.trans l2))⟩
theorem snd_lrg1 (hc : X.calm = true) (hg : Gl X "list") (hm : X.mg "list" = none) (hg2 : Gl X "range") (hm2 : X.mg "range" = none) (hb : Snd T X W b cb) (nb : starEach [b] X.env = (false, eval b X.env) :: starEach [] X.env)
    (na : starEach [.Call (.Name "range" p2) [b] [] pos2] X.env = (false, eval (.Call (.Name "range" p2) [b] [] pos2) X.env) :: starEach [] X.env) :
    Snd T X W (.Call (.Name "list" p) [.Call (.Name "range" p2) [b] [] pos2] [] pos) (eRg1 cb (mkL mk)) :=
  PE.imp (L2.pe_listRg hc hg hm (L2.prg_1 hg2 hm2 hb nb) na) fun σ H Q hq => rg1_of hq fun rp el hn ok e pk => ⟨ok, rd_lst rp hn (el ▸ rg_rvs) e pk⟩
theorem snd_lrg2 (hc : X.calm = true) (hg : Gl X "list") (hm : X.mg "list" = none) (hg2 : Gl X "range") (hm2 : X.mg "range" = none) (ha : Snd T X W a ca) (hb : Snd T X W b cb) (nab : starEach [a, b] X.env = (false, eval a X.env) :: starEach [b] X.env) (nb : starEach [b] X.env = (false, eval b X.env) :: starEach [] X.env) (hp : (backTo pos2 (starEach [b] X.env)).any (·.1) = false)
    (na : starEach [.Call (.Name "range" p2) [a, b] [] pos2] X.env = (false, eval (.Call (.Name "range" p2) [a, b] [] pos2) X.env) :: starEach [] X.env) :
    Snd T X W (.Call (.Name "list" p) [.Call (.Name "range" p2) [a, b] [] pos2] [] pos) (eRg2 ca cb (mkL mk)) :=
  PE.imp (L2.pe_listRg hc hg hm (L2.prg_2 hg2 hm2 ha hb nab nb hp) na) fun σ H Q hq => rg2_of hq fun rp el hn ok e pk => ⟨ok, rd_lst rp hn (el ▸ rg_rvs) e pk⟩
theorem snd_trg1 (hc : X.calm = true) (hg : Gl X "tuple") (hm : X.mg "tuple" = none) (hg2 : Gl X "range") (hm2 : X.mg "range" = none) (hb : Snd T X W b cb) (nb : starEach [b] X.env = (false, eval b X.env) :: starEach [] X.env)
    (na : starEach [.Call (.Name "range" p2) [b] [] pos2] X.env = (false, eval (.Call (.Name "range" p2) [b] [] pos2) X.env) :: starEach [] X.env) :
    Snd T X W (.Call (.Name "tuple" p) [.Call (.Name "range" p2) [b] [] pos2] [] pos) (eRg1 cb mkT) :=
  PE.imp (L2.pe_tupRg hc hg hm (L2.prg_1 hg2 hm2 hb nb) na) fun σ H Q hq => rg1_of hq fun rp el hn ok e pk => ⟨ok, post_tup rp hn (el ▸ rg_rvs) e pk⟩
theorem snd_trg2 (hc : X.calm = true) (hg : Gl X "tuple") (hm : X.mg "tuple" = none) (hg2 : Gl X "range") (hm2 : X.mg "range" = none) (ha : Snd T X W a ca) (hb : Snd T X W b cb) (nab : starEach [a, b] X.env = (false, eval a X.env) :: starEach [b] X.env) (nb : starEach [b] X.env = (false, eval b X.env) :: starEach [] X.env) (hp : (backTo pos2 (starEach [b] X.env)).any (·.1) = false)
    (na : starEach [.Call (.Name "range" p2) [a, b] [] pos2] X.env = (false, eval (.Call (.Name "range" p2) [a, b] [] pos2) X.env) :: starEach [] X.env) :
    Snd T X W (.Call (.Name "tuple" p) [.Call (.Name "range" p2) [a, b] [] pos2] [] pos) (eRg2 ca cb mkT) :=
  PE.imp (L2.pe_tupRg hc hg hm (L2.prg_2 hg2 hm2 ha hb nab nb hp) na) fun σ H Q hq => rg2_of hq fun rp el hn ok e pk => ⟨ok, post_tup rp hn (el ▸ rg_rvs) e pk⟩
end
end SW
end
section
/-! Short forms for printed proofs, second part: defs, constants, tables. -/
namespace SW
open PySem PySem.Spec PyProof.Rows L2 SlX
variable {T : Tab} {W : WX} {X : Cx} {C : Addr} {f : Str} {k : Nat} {sp : Sp}
/-! built-in names -/
theorem bt_len : bootBuiltins (Str.ofString "len") = some (.builtin "len") := by decide +kernel
theorem bt_int : bootBuiltins (Str.ofString "int") = some (.type "int") := by decide +kernel
theorem bt_abs : bootBuiltins (Str.ofString "abs") = some (.builtin "abs") := by decide +kernel
theorem bt_min : bootBuiltins (Str.ofString "min") = some (.builtin "min") := by decide +kernel
theorem bt_max : bootBuiltins (Str.ofString "max") = some (.builtin "max") := by decide +kernel
theorem bt_sum : bootBuiltins (Str.ofString "sum") = some (.builtin "sum") := by decide +kernel
theorem bt_all : bootBuiltins (Str.ofString "all") = some (.builtin "all") := by decide +kernel
theorem bt_any : bootBuiltins (Str.ofString "any") = some (.builtin "any") := by decide +kernel
theorem bt_list : bootBuiltins (Str.ofString "list") = some (.type "list") := by decide +kernel
theorem bt_tuple : bootBuiltins (Str.ofString "tuple") = some (.type "tuple") := by decide +kernel
theorem bt_dict : bootBuiltins (Str.ofString "dict") = some (.type "dict") := by decide +kernel
theorem bt_set : bootBuiltins (Str.ofString "set") = some (.type "set") := by decide +kernel
theorem bt_sorted : bootBuiltins (Str.ofString "sorted") = some (.builtin "sorted") := by decide +kernel
theorem bt_range : bootBuiltins (Str.ofString "range") = some (.type "range") := by decide +kernel
theorem bt_enumerate : bootBuiltins (Str.ofString "enumerate") = some (.type "enumerate") := by decide +kernel
theorem bt_zip : bootBuiltins (Str.ofString "zip") = some (.type "zip") := by decide +kernel
theorem bt_isinstance : bootBuiltins (Str.ofString "isinstance") = some (.builtin "isinstance") := by decide +kernel
theorem bt_str : bootBuiltins (Str.ofString "str") = some (.type "str") := by decide +kernel
theorem bt_repr : bootBuiltins (Str.ofString "repr") = some (.builtin "repr") := by decide +kernel
theorem bt_iter : bootBuiltins (Str.ofString "iter") = some (.builtin "iter") := by decide +kernel
theorem bt_bool : bootBuiltins (Str.ofString "bool") = some (.type "bool") := by decide +kernel
theorem bt_reversed : bootBuiltins (Str.ofString "reversed") = some (.type "reversed") := by decide +kernel
/-! tables of methods, slots, properties -/
theorem tbn {α : Type} {P : Nat → α → Prop} : ∀ c a, (c, a) ∈ ([] : List (Nat × α)) → P c a := fun _ _ h => nomatch h
theorem tbc {α : Type} {P : Nat → α → Prop} {i : Nat} {a : α} {l : List (Nat × α)} (h : P i a) (t : ∀ c b, (c, b) ∈ l → P c b) : ∀ c b, (c, b) ∈ (i, a) :: l → P c b := fun c b m => by
  rcases List.mem_cons.mp m with e | m
  · cases e; exact h
  · exact t c b m
/-! constants -/
theorem pe_gcX {nm : Str} {pos : Pos} {v : V} (hg : Gl X nm) (h : ∃ u, X.mg nm = some u ∧ RelV v u) (hd : (nm == ("__debug__" : Str)) = false := by decide +kernel) : PE X (.Name nm pos) (tC v) := let ⟨_, hm, r⟩ := h; pe_glob hg hm r hd
section
variable {j : Nat} {pos : Pos} {nm : Str}
theorem gI {i : Int} {n : Int} (h : n = i := by rfl) : Snd T X W (.Constant (.int n) j pos) (eC (.int i)) := by subst h; exact snd_const pe_int fun _ _ => .int _
theorem gBl {b : Bool} : Snd T X W (.Constant (.bool b) j pos) (eC (.bl b)) := snd_const pe_bl fun _ _ => .bl _
theorem gNo : Snd T X W (.Constant .none j pos) (eC .non) := snd_const pe_non fun _ _ => .non
noncomputable def sOkB (s : List Nat) : Bool := Nat.ble s.length 1000000 && s.all fun c => Nat.blt c 1114112
theorem sOkB_ok {s : List Nat} (h : sOkB s = true) : sOk s := by
  obtain ⟨h1, h2⟩ := He.ba h
  exact ⟨Nat.le_of_ble_eq_true h1, fun c hc => Nat.le_of_ble_eq_true (List.all_eq_true.mp h2 c hc)⟩
theorem gS {z : Str} {s : List Nat} (h : z = tx s := by decide +kernel) (ok : sOkB s = true := by decide +kernel) : Snd T X W (.Constant (.str z) j pos) (eC (.str s)) := by subst h; exact snd_const pe_str fun _ _ => .str (sOkB_ok ok)
theorem gGI {i n : Int} (hm : ∃ u, X.mg nm = some u ∧ RelV (.int n) u) (h : n = i := by rfl) (hg : Gl X nm := by rfl) (hd : (nm == ("__debug__" : Str)) = false := by decide) : Snd T X W (.Name nm pos) (eC (.int i)) := by subst h; exact snd_const (pe_gcX hg hm hd) fun _ _ => .int _
theorem gGS {z : Str} {s : List Nat} (hm : ∃ u, X.mg nm = some u ∧ RelV (.str z) u) (h : z = tx s := by decide +kernel) (ok : sOkB s = true := by decide +kernel) (hg : Gl X nm := by rfl) (hd : (nm == ("__debug__" : Str)) = false := by decide) : Snd T X W (.Name nm pos) (eC (.str s)) := by subst h; exact snd_const (pe_gcX hg hm hd) fun _ _ => .str (sOkB_ok ok)
end
/-! isinstance -/
section
variable {e : Expr} {p p2 pos : Pos} {cn : Str} {nc : Nat} {acc : List Nat} {ce : Code} {u : Value}
theorem gisiT {n : String} (x : Cx1 T X W) (ok : IsiOk X.K T nc (.type n) acc) (he : Snd T X W e ce) (hm : cn ∈ FREE := by decide) (hv : bootBuiltins cn = some (.type n) := by rfl) (hgc : Gl X cn := by rfl) (hn : cn ≠ "__name__" := by decide) (hdb : (cn == ("__debug__" : Str)) = false := by decide) (hg : Gl X "isinstance" := by rfl)
    (hst : starEach [e, .Name cn p2] X.env = (false, eval e X.env) :: starEach [.Name cn p2] X.env := by rfl) (hst2 : starEach [.Name cn p2] X.env = (false, eval (.Name cn p2) X.env) :: starEach [] X.env := by rfl) (hpl : (backTo pos (starEach [.Name cn p2] X.env)).any (·.1) = false := by rfl) :
    Snd T X W (.Call (.Name "isinstance" p) [e, .Name cn p2] [] pos) (eUn (oIsi nc acc) ce) := gisi x ok (.ty n) (pe_bltn hgc (x.fr _ hm) hv rfl hn hdb) he hg hst hst2 hpl
theorem gisiC {D : Addr} (x : Cx1 T X W) (ok : IsiOk X.K T nc (.ref D) acc) (he : Snd T X W e ce) (hm : X.mg cn = some (.ref D)) (hgc : Gl X cn := by rfl) (hdb : (cn == ("__debug__" : Str)) = false := by decide) (hg : Gl X "isinstance" := by rfl)
    (hst : starEach [e, .Name cn p2] X.env = (false, eval e X.env) :: starEach [.Name cn p2] X.env := by rfl) (hst2 : starEach [.Name cn p2] X.env = (false, eval (.Name cn p2) X.env) :: starEach [] X.env := by rfl) (hpl : (backTo pos (starEach [.Name cn p2] X.env)).any (·.1) = false := by rfl) :
    Snd T X W (.Call (.Name "isinstance" p) [e, .Name cn p2] [] pos) (eUn (oIsi nc acc) ce) := gisi x ok (.own D) (pe_glob hgc hm rfl hdb) he hg hst hst2 hpl
end
/-! assignments -/
section
variable {kx vx tg iter tg1 iter1 : Expr} {ifs ifs1 : List Expr} {scope : Scope} {pos spos py : Pos} {ci ci1 : ICode} {g g1 : GCode} {t t1 : TCode} {ck cv : Code} {i : Nat} {y : Str}
theorem gsetdc (own : List (Str × Nat)) (x : Cx1 T X W) (hi : SndI T X W tg iter ci) (hg : ∀ (s : Shared) (H : Hp) (C : Addr) (cl : List (Str × Addr)) (fp : List Addr), SndGv T (X.blk s H scope (compEnvC scope cl C X.env) fp) (own.map (·.2)) tg g) (ht : ∀ (s : Shared) (H : Hp) (C : Addr) (cl : List (Str × Addr)) (fp : List Addr), SndTs T (X.blk s H scope (compEnvC scope cl C X.env) fp) W0 ifs t) (hk : ∀ (s : Shared) (H : Hp) (C : Addr) (cl : List (Str × Addr)) (fp : List Addr), Snd T (X.blk s H scope (compEnvC scope cl C X.env) fp) W0 kx ck) (he : ∀ (s : Shared) (H : Hp) (C : Addr) (cl : List (Str × Addr)) (fp : List Addr), Snd T (X.blk s H scope (compEnvC scope cl C X.env) fp) W0 vx cv)
    (hy : X.N[i]? = some y := by rfl) (hyl : X.env.scope.names.lookup y = some .local := by rfl) (hsw : swapsWith (.DictComp kx vx [⟨tg, iter, ifs, 0⟩] scope pos) (some (.Name y py)) spos.line X.env = pure true := by rfl)
    (hb : blkC X.N X.env.scope scope own = true := by rfl) (hs : ∀ x, foldedSetIterable iter X.env x = pure x := by intro _; rfl) :
    SndS T X W (.Assign [.Name y py] (.DictComp kx vx [⟨tg, iter, ifs, 0⟩] scope pos) spos) (sAsg (eDc ci (own.map (·.2)) g t ck cv) (gVar i)) := snds_setDc x.hw (by have := x.hu; omega) x.hc x.hN hy hyl hsw hi (blkOk_by hb) hg ht hk he hs
theorem gsetdc2 (own : List (Str × Nat)) (vs1 : List Nat) (x : Cx1 T X W) (hi : SndI T X W tg iter ci) (hg : ∀ (s : Shared) (H : Hp) (C : Addr) (cl : List (Str × Addr)) (fp : List Addr), SndGv T (X.blk s H scope (compEnvC scope cl C X.env) fp) (own.map (·.2)) tg g) (ht : ∀ (s : Shared) (H : Hp) (C : Addr) (cl : List (Str × Addr)) (fp : List Addr), SndTs T (X.blk s H scope (compEnvC scope cl C X.env) fp) W0 ifs t)
    (hi1 : ∀ (s : Shared) (H : Hp) (C : Addr) (cl : List (Str × Addr)) (fp : List Addr), SndI T (X.blk s H scope (compEnvC scope cl C X.env) fp) W0 tg1 iter1 ci1) (hg1 : ∀ (s : Shared) (H : Hp) (C : Addr) (cl : List (Str × Addr)) (fp : List Addr), SndGv T (X.blk s H scope (compEnvC scope cl C X.env) fp) vs1 tg1 g1) (ht1 : ∀ (s : Shared) (H : Hp) (C : Addr) (cl : List (Str × Addr)) (fp : List Addr), SndTs T (X.blk s H scope (compEnvC scope cl C X.env) fp) W0 ifs1 t1) (hk : ∀ (s : Shared) (H : Hp) (C : Addr) (cl : List (Str × Addr)) (fp : List Addr), Snd T (X.blk s H scope (compEnvC scope cl C X.env) fp) W0 kx ck) (he : ∀ (s : Shared) (H : Hp) (C : Addr) (cl : List (Str × Addr)) (fp : List Addr), Snd T (X.blk s H scope (compEnvC scope cl C X.env) fp) W0 vx cv)
    (hy : X.N[i]? = some y := by rfl) (hyl : X.env.scope.names.lookup y = some .local := by rfl) (hsw : swapsWith (.DictComp kx vx [⟨tg, iter, ifs, 0⟩, ⟨tg1, iter1, ifs1, 0⟩] scope pos) (some (.Name y py)) spos.line X.env = pure true := by rfl)
    (hb : blkC X.N X.env.scope scope own = true := by rfl) (hv : ∀ i ∈ vs1, i ∈ own.map (·.2) := by decide) (hs : ∀ x, foldedSetIterable iter X.env x = pure x := by intro _; rfl) (hs1 : ∀ env x, foldedSetIterable iter1 env x = pure x := by intro _ _; rfl) :
    SndS T X W (.Assign [.Name y py] (.DictComp kx vx [⟨tg, iter, ifs, 0⟩, ⟨tg1, iter1, ifs1, 0⟩] scope pos) spos) (sAsg (eDc2 ci (own.map (·.2)) g t ci1 vs1 g1 t1 ck cv) (gVar i)) := snds_setDc2 x.hw (by have := x.hu; omega) x.hc x.hN hy hyl hsw hi (blkOk_by hb) hv hg ht hk he hs hi1 hg1 ht1 hs1
variable {tgs es : List Expr} {kt k2 m : Nat} {pt p2 : Pos} {a : LCode} {gs : GsCode}
theorem gunp (x : Cx1 T X W) (ha : SndA T X W es a) (hg : SndGs T X W tgs gs) (hl : es.length ≤ mx := by decide) (hn : (assignEach tgs X.env).length = es.length := by rfl) (hst : (assignEach tgs X.env).findIdx? (·.1) = none := by rfl)
    (hs : swapsWithSole [.Tuple tgs kt pt] (.Tuple es k2 p2) pos.line X.env = pure false := by rfl) (hw : swappedStores [.Tuple tgs kt pt] (.Tuple es k2 p2) X.env = pure none := by rfl) (h1 : (assignEach [.Tuple tgs kt pt] X.env).map (·.2) = [assign (.Tuple tgs kt pt) X.env] := by rfl) :
    SndS T X W (.Assign [.Tuple tgs kt pt] (.Tuple es k2 p2) pos) (sUnp a gs) := snds_unp x.hc ha hg hl rfl hn hst hs hw h1
theorem ggt (x : Cx1 T X W) (h : SndGs T X W tgs gs) (hl : GLen gs m) (hn : (assignEach tgs X.env).length = m := by rfl) (hst : (assignEach tgs X.env).findIdx? (·.1) = none := by rfl) : SndG T X W (.Tuple tgs kt pos) (gTups gs) := sndg_tup x.hc h hl.len hn hst
theorem gbt {vs : List Nat} (x : Cx1 T X W) (h : SndGvs T X vs tgs gs) (hl : GLen gs m) (hn : (assignEach tgs X.env).length = m := by rfl) (hst : (assignEach tgs X.env).findIdx? (·.1) = none := by rfl) : SndGv T X vs (.Tuple tgs kt pos) (gTups gs) := sndgv_tup x.hc h hl hn hst
end
theorem gmk {e : Expr} {es : List Expr} {nm : Str} {p pos : Pos} {ca : LCode} {zl : List (Option DV)} {fc : FCode} {n : Nat} (c z : Nat) (x : Cx1 T X W) (M : MakeAt X (L2.CX X.prog X.w) (T.cls c) (spOf T n fc)) (hm : X.mg nm = some (.ref (T.cls c))) (ha : SndA T X W (e :: es) ca) (hz : T.nsl c = z + 1 := by rfl) (hzl : zl = List.replicate (z + 1) none := by rfl) (hn : es.length + 2 = n := by rfl) (hg : Gl X nm := by rfl)
    (hdb : (nm == ("__debug__" : Str)) = false := by decide) (he : starEach (e :: es) X.env = (false, eval e X.env) :: starEach es X.env := by rfl) (hpl : (backTo pos (starEach es X.env)).any (·.1) = false := by rfl) :
    Snd T X W (.Call (.Name nm p) (e :: es) [] pos) (eMake c zl fc ca) := by subst hzl; exact gmake x M hm ha hz hn hg hdb he hpl
/-! list(range(..)), list(d.values()) -/
section
variable {a b : Expr} {ca cb : Code} {p p2 pos pos2 apos : Pos} {mk : Bool}
theorem glrg1 (x : Cx1 T X W) (hb : Snd T X W b cb) (hg : Gl X "list" := by rfl) (hg2 : Gl X "range" := by rfl) (nb : starEach [b] X.env = (false, eval b X.env) :: starEach [] X.env := by rfl)
    (na : starEach [.Call (.Name "range" p2) [b] [] pos2] X.env = (false, eval (.Call (.Name "range" p2) [b] [] pos2) X.env) :: starEach [] X.env := by rfl) :
    Snd T X W (.Call (.Name "list" p) [.Call (.Name "range" p2) [b] [] pos2] [] pos) (eRg1 cb (mkL mk)) := snd_lrg1 x.hc hg (x.fr _ (by decide)) hg2 (x.fr _ (by decide)) hb nb na
theorem glrg2 (x : Cx1 T X W) (ha : Snd T X W a ca) (hb : Snd T X W b cb) (hg : Gl X "list" := by rfl) (hg2 : Gl X "range" := by rfl) (nab : starEach [a, b] X.env = (false, eval a X.env) :: starEach [b] X.env := by rfl) (nb : starEach [b] X.env = (false, eval b X.env) :: starEach [] X.env := by rfl) (hp : (backTo pos2 (starEach [b] X.env)).any (·.1) = false := by rfl)
    (na : starEach [.Call (.Name "range" p2) [a, b] [] pos2] X.env = (false, eval (.Call (.Name "range" p2) [a, b] [] pos2) X.env) :: starEach [] X.env := by rfl) :
    Snd T X W (.Call (.Name "list" p) [.Call (.Name "range" p2) [a, b] [] pos2] [] pos) (eRg2 ca cb (mkL mk)) := snd_lrg2 x.hc hg (x.fr _ (by decide)) hg2 (x.fr _ (by decide)) ha hb nab nb hp na
theorem gtrg1 (x : Cx1 T X W) (hb : Snd T X W b cb) (hg : Gl X "tuple" := by rfl) (hg2 : Gl X "range" := by rfl) (nb : starEach [b] X.env = (false, eval b X.env) :: starEach [] X.env := by rfl)
    (na : starEach [.Call (.Name "range" p2) [b] [] pos2] X.env = (false, eval (.Call (.Name "range" p2) [b] [] pos2) X.env) :: starEach [] X.env := by rfl) :
    Snd T X W (.Call (.Name "tuple" p) [.Call (.Name "range" p2) [b] [] pos2] [] pos) (eRg1 cb mkT) := snd_trg1 x.hc hg (x.fr _ (by decide)) hg2 (x.fr _ (by decide)) hb nb na
theorem gtrg2 (x : Cx1 T X W) (ha : Snd T X W a ca) (hb : Snd T X W b cb) (hg : Gl X "tuple" := by rfl) (hg2 : Gl X "range" := by rfl) (nab : starEach [a, b] X.env = (false, eval a X.env) :: starEach [b] X.env := by rfl) (nb : starEach [b] X.env = (false, eval b X.env) :: starEach [] X.env := by rfl) (hp : (backTo pos2 (starEach [b] X.env)).any (·.1) = false := by rfl)
    (na : starEach [.Call (.Name "range" p2) [a, b] [] pos2] X.env = (false, eval (.Call (.Name "range" p2) [a, b] [] pos2) X.env) :: starEach [] X.env := by rfl) :
    Snd T X W (.Call (.Name "tuple" p) [.Call (.Name "range" p2) [a, b] [] pos2] [] pos) (eRg2 ca cb mkT) := snd_trg2 x.hc hg (x.fr _ (by decide)) hg2 (x.fr _ (by decide)) ha hb nab nb hp na
theorem glvals {e : Expr} {c : Code} (x : Cx1 T X W) (he : Snd T X W e c) (hg : Gl X "list" := by rfl) (hbase : attributeBase e "values" X.env (eval e X.env) = eval e X.env := by rfl) (hline : (apos.endLine == pos2.line) = true := by rfl)
    (na : starEach [.Call (.Attribute e "values" apos) [] [] pos2] X.env = (false, eval (.Call (.Attribute e "values" apos) [] [] pos2) X.env) :: starEach [] X.env := by rfl) :
    Snd T X W (.Call (.Name "list" p) [.Call (.Attribute e "values" apos) [] [] pos2] [] pos) (eLVals mk c) := snd_lvals x.hc hg (x.fr _ (by decide)) he hbase hline na
/-! operators -/
theorem ol_eq (x : Cx1 T X W) : OpR X (compareOp .Eq) (RdO T oEq) := or_eq (by have := x.hu; omega)
theorem ol_ne (x : Cx1 T X W) : OpR X (compareOp .NotEq) (RdO T oNe) := or_ne (by have := x.hu; omega)
theorem ol_lt (x : Cx1 T X W) : OpR X (compareOp .Lt) (RdO T oLtX) := or_ltX (by have := x.hu; omega)
theorem ol_gt (x : Cx1 T X W) : OpR X (compareOp .Gt) (RdO T oGtX) := or_gtX (by have := x.hu; omega)
theorem ol_le (x : Cx1 T X W) : OpR X (compareOp .LtE) (RdO T oLeX) := or_leX (by have := x.hu; omega)
theorem ol_ge (x : Cx1 T X W) : OpR X (compareOp .GtE) (RdO T oGeX) := or_geX (by have := x.hu; omega)
theorem ol_in (x : Cx1 T X W) : OpR X (compareOp .In) (RdO T (oInX false)) := or_inX x.hw (by have := x.hu; omega)
theorem ol_ni (x : Cx1 T X W) : OpR X (compareOp .NotIn) (RdO T (oInX true)) := or_notInX x.hw (by have := x.hu; omega)
theorem ol_sorted (x : Cx1 T X W) (mk : Bool) : CallR X (.builtin "sorted") (RdB T (oSorted mk)) := cb_sorted mk (by have := x.hu; omega)
theorem ol_dict (x : Cx1 T X W) : CallR X (.type "dict") (RdB T oDictP) := cb_dictP x.hw (by have := x.hu; omega) x.hc
theorem ol_get (x : Cx1 T X W) : BMeth X T "dict" "get" (RdM T mGet) := bm_get x.hw (by have := x.hu; omega)
end
/-! defs -/
section
variable {P : Program} {w : World} {K : PySem.W.Frag} {mg : Str → Option Value} {base : Heap} {nm : Str} {n m : Nat} {c : FCode} {fa : Addr} {fd : FuncData} {ps N : List Str} {params : Arguments} {body : List Stmt} {scope : Scope} {z : SW.St} {b : SCode} {qual : Str}
theorem fnok_r (F : FnOk P w K mg base (L2.CX P w) k fa fd ps sp) (hb : Binds K fd ps []) : FnR P w K mg base (L2.CX P w) k fa sp :=
  (F.raw hb .nil).imp fun vs H Q E h => by rw [List.append_nil]; exact h
theorem FnG.pure (F : FnG P w K mg base nm k n T c) : FnG P w K mg base nm k n T (pureF c) :=
  let ⟨f, fd, ps, h1, h2, h3, h4⟩ := F.at'; ⟨f, fd, ps, h1.imp fun _ _ _ _ q => sp_pure q, h2, h3, h4⟩
/-- a def's body, all that it leans on -/
abbrev BodyOk (P : Program) (w : World) (K : PySem.W.Frag) (mg : Str → Option Value) (base : Heap) (N : List Str) (qual : Str) (scope : Scope) (T : Tab) (k : Nat) (body : List Stmt) (b : SCode) : Prop :=
  ∀ (f : Addr) (cdv : Value) (A : Around) (outer : List Env) (s : Shared) (H : Hp) (E : XK), Cx1 T (cxOf (L2.CX P w) P w K mg base N qual scope f cdv A outer s H E) (fun cls d _ H => E cls d H) → Room k (cxOf (L2.CX P w) P w K mg base N qual scope f cdv A outer s H E).A →
    PassesOwn (model P w) (cxOf (L2.CX P w) P w K mg base N qual scope f cdv A outer s H E).A (cxOf (L2.CX P w) P w K mg base N qual scope f cdv A outer s H E).env (cxOf (L2.CX P w) P w K mg base N qual scope f cdv A outer s H E).xe →
    SndSs T (cxOf (L2.CX P w) P w K mg base N qual scope f cdv A outer s H E) (fun cls d _ H => E cls d H) body b
theorem fn_pr (D : FunD K nm qual params body scope [] [] fa fd) (S : FnScope N ps scope) (hw : T.w = w) (fr : ∀ nm ∈ FREE, mg nm = none) (B : BodyOk P w K mg base N qual scope T k body b) (hn : ps.length = n) (hm : N.length - n = m) (hz : z = List.replicate m none) :
    FnOk P w K mg base (L2.CX P w) (k + 1) fa fd ps (spOf T n (fnC z b)) := by
  subst hz
  exact fn_sw D S hn hm fun cdv A outer s H E hr tk pa => B fa cdv A outer s H E ⟨hw, hr.mono (Nat.zero_le _), rfl, S.nd, tk, fr⟩ hr pa
end
end SW
end
section
/-! The end of a law. -/
namespace SW
open PySem PySem.Spec PyProof.Rows L2 SlX
variable {T : Tab} {O : Out} {ρ ρ1 ρ' : List Addr} {F F1 F' : Fz} {H H1 H' : Hp} {h h1 : CH} {s : SW.St} {σ : L2.St} {k : K} {x : KX} {Q : VK} {W : WX} {X : Cx} {E : XK}
/-! checks of many -/
noncomputable section
def allB (n : Nat) (f : Nat → Bool) : Bool := @Nat.rec (fun _ => Bool) true (fun m ih => @Bool.rec (fun _ => Bool) false ih (f m)) n
end
theorem allB_ok : ∀ {n : Nat} {f : Nat → Bool}, allB n f = true → ∀ m, m < n → f m = true
  | 0, _, _, m, h => absurd h (by omega)
  | n + 1, f, e, m, h => by
    obtain ⟨e1, e2⟩ := brec_and2 (show @Bool.rec (fun _ => Bool) false (allB n f) (f n) = true from e)
    by_cases z : m = n
    · subst z; exact e1
    · exact allB_ok e2 m (by omega)
theorem roll_all {c : FCode} {m : Nat} (h : allB m (fun t => rollOk c (.ofNat (Nat.succ t))) = true) : ∀ t, t ≤ m → 0 < t → rollOk c (.ofNat t) = true := fun t h1 h2 => by
  obtain ⟨u, rfl⟩ : ∃ u, t = Nat.succ u := ⟨t - 1, by omega⟩
  exact allB_ok h u (by omega)
theorem FnG.cut {P : Program} {w : World} {K : PySem.W.Frag} {mg : Str → Option Value} {base : Heap} {nm : Str} {k n : Nat} {c c' : FCode} (F : FnG P w K mg base nm k n T c) (h : ∀ vs H Q E, spOf T n c' vs H Q E → spOf T n c vs H Q E) : FnG P w K mg base nm k n T c' :=
  let ⟨f, fd, ps, h1, h2, h3, h4⟩ := F.at'; ⟨f, fd, ps, h1.imp h, h2, h3, h4⟩
theorem gcat {els : Expr} {ce : Code} {sc sp : Str} {p1 p2 p3 p4 p5 p6 p7 p8 p9 p10 p11 : Pos} {i j : Nat} (hs : ∀ a ns, T.scr a ns → ∀ H, SqL X.K H a (ns.map V.int)) (c : Cx1 T X W) (he : Snd T X W els ce)
    (hi : X.N[i]? = some sc := by rfl) (hj : X.N[j]? = some sp := by rfl) (vi : Vis X.env.scope sc := by exact .inl rfl) (vj : Vis X.env.scope sp := by exact .inl rfl) (di : (sc == ("__debug__" : Str)) = false := by decide) (dj : (sp == ("__debug__" : Str)) = false := by decide) (ci : (sc == ("__classdict__" : Str)) = false := by decide) (cj : (sp == ("__classdict__" : Str)) = false := by decide)
    (gl : Gl X "len" := by rfl) (gi : Gl X "int" := by rfl)
    (hm : behindInMarks .Lt (.Call (.Name "len" p2) [.Name sc p3] [] p4) = false := by rfl)
    (h1 : starEach [.Name sc p3] X.env = (false, eval (.Name sc p3) X.env) :: starEach [] X.env := by rfl) (h3 : starEach [.Subscript (.Name sc p7) (.Name sp p8) p9] X.env = (false, eval (.Subscript (.Name sc p7) (.Name sp p8) p9) X.env) :: starEach [] X.env := by rfl) (hpx : PlainIx (.Name sp p8) := by intro _ _; rfl) :
    Snd T X W (.IfExp (.Compare (.Name sp p1) [.Lt] [.Call (.Name "len" p2) [.Name sc p3] [] p4] p5) (.Call (.Name "int" p6) [.Subscript (.Name sc p7) (.Name sp p8) p9] [] p10) els p11) (eCellAt i j ce) :=
  snd_cellAt hs c hi hj vi vj di dj ci cj gl gi bt_len bt_int he hm h1 h3 hpx
theorem ol_ltR (x : Cx1 T X W) : OpR X (compareOp .Lt) (RdO T oLtR) := or_ltR (by have := x.hu; omega)
theorem ol_gtR (x : Cx1 T X W) : OpR X (compareOp .Gt) (RdO T oGtR) := or_gtR (by have := x.hu; omega)
/-! the law's def -/
def spLaw (K : PySem.W.Frag) : Sp := fun vs H Q _ => ∃ (a : Addr) (ns : List Int), vs = [.ref a] ∧ ns.length ≤ 63 ∧ Only H ∧ SqL K H a (ns.map V.int) ∧ ∀ H', Q (.bl true) H'
theorem law_sp {K : PySem.W.Frag} {c : FCode} {vs : List V} (hT : ∀ a ns, (∀ H, SqL K H a (ns.map V.int)) → T.scr a ns) (ok : isT (c [.rng (.ofNat 0) (.ofNat 0)] [] kRet kExc) = true) (h : spLaw K vs H Q E) : spOf T 1 c vs H Q E0 := by
  obtain ⟨a, ns, rfl, hl, hO, hS, hQ⟩ := h
  have ok1 := isT_some ok
  have fin : ∀ F : Fz, (∀ b, F b → H b ≠ none) → RVI T F H (.rng (.ofNat 0) (.ofNat 0)) (.ref a) → spOf T 1 c [.ref a] H Q E0 := fun F ft r => by
    refine ⟨rfl, .ret (.bl true), [], F, [.rng (.ofNat 0) (.ofNat 0)], [], kRet, kExc, ⟨List.nodup_nil, fun a m => (nomatch m), fun i a mo e => (by cases e), ft, fun i mo e => (by cases e), rfl, fun i c l e => (by cases e)⟩, .cons (.imm r) .nil, ok1, fun d h' e3 ρ1 F1 H1 v l1 r1 r => ?_, fun ci fs h' e3 => ?_⟩
    · obtain ⟨_, e4⟩ := bsel_some e3
      cases e4
      rw [r.bl_inv]
      exact hQ H1
    · obtain ⟨_, e4⟩ := nrs_some e3
      cases e4
  rcases hS with (e | ⟨o, e⟩) | q
  · rcases hO a with z | ⟨o, xs, z⟩
    · rw [e] at z; cases z
    · rw [e] at z; cases z
  · exact fin (fun b => b = a) (fun b hb => by rw [hb, e]; simp) (.scr rfl e hl)
  · exact fin (fun _ => False) (fun b hb => hb.elim) (.scrK (hT a ns fun H' => .inr q) hl)
theorem law_end {P : Program} {w : World} {K : PySem.W.Frag} {mg : Str → Option Value} {base : Heap} {k : Nat} {f : Addr} {fd : FuncData} {ps : List Str} {c : FCode} (Fn : FnOk P w K mg base (L2.CX P w) k f fd ps (spOf T 1 c))
    (hT : ∀ a ns, (∀ H, SqL K H a (ns.map V.int)) → T.scr a ns) (ok : isT (c [.rng (.ofNat 0) (.ofNat 0)] [] kRet kExc) = true) : FnOk P w K mg base L2.CX0 k f fd ps (spLaw K) := by
  refine ⟨fun vs H Q E h => Fn.len vs H Q E0 (law_sp hT ok h), fun A outer s H args us vs Q E hr he hb hv hs => ?_⟩
  refine codeAny_mono (Fn.run A outer s H args us vs Q E0 hr he hb hv (law_sp hT ok hs)) fun r s' hq => ?_
  cases r with
  | error e => exact (cx_no H s e s' hq).elim
  | ok fl =>
    cases fl with
    | ret u => exact hq
    | _ => exact hq.elim
/-- a def's promise over every base, by what the head tells -/
theorem law_facts {P : Program} {w : World} {K : PySem.W.Frag} {mg : Str → Option Value} {nm x : Str} {k : Nat} {f fa : Addr} {fd : FuncData} {c : FCode} (hf : mg nm = some (.ref fa)) (hg : mg nm = some (.ref f)) (Fn : ∀ base, FnOk P w K mg base (L2.CX P w) k f fd [x] (spOf T 1 c))
    (hT : ∀ a ns, (∀ H, SqL K H a (ns.map V.int)) → T.scr a ns) (ok : isT (c [.rng (.ofNat 0) (.ofNat 0)] [] kRet kExc) = true) : ∀ base, FnOk P w K mg base L2.CX0 k fa fd [x] (spLaw K) := fun base => by
  have e := hf.symm.trans hg
  cases e
  exact law_end (Fn base) hT ok
end SW
end
namespace Lw
open PySem PySem.Spec PyProof.Rows L2 SlX SW
abbrev PP : Program := PySem.Challenge.pw_slantways_k80_whole_turns_of_partings
def top (i : Nat) : Stmt := PP.main.body.getD i (.Pass ⟨0, 0, 0, 0⟩)
def clsBody : Stmt → List Stmt
  | .ClassDef _ _ _ b _ _ _ _ _ _ _ => b
  | _ => []
def cs : List (Str × Nat) := [("Slope", 3), ("Way", 3), ("Parting", 2)]
abbrev S__law_roll : Stmt := top 54
abbrev S__law_slope : Stmt := top 55
abbrev S__law_ring_slope : Stmt := top 58
abbrev S_is_integer : Stmt := top 12
abbrev S_is_from : Stmt := top 14
abbrev S_require_from : Stmt := top 15
abbrev S_m_Slope___init__ : Stmt := (clsBody (top 21)).getD 1 (.Pass ⟨0, 0, 0, 0⟩)
abbrev S__law_ways_listed : Stmt := top 57
abbrev S__law_levels : Stmt := top 56
abbrev S__law_lined_blocks : Stmt := top 59
abbrev S__law_ring_turned : Stmt := top 60
abbrev S_require_integer : Stmt := top 13
abbrev S_turned_point : Stmt := top 38
abbrev S_are_ascending : Stmt := top 16
abbrev S_is_block : Stmt := top 35
abbrev S_do_cross : Stmt := top 36
abbrev S_are_blocks : Stmt := top 37
abbrev S_m_Parting___init__ : Stmt := (clsBody (top 39)).getD 1 (.Pass ⟨0, 0, 0, 0⟩)
abbrev S_m_Parting_turned_by : Stmt := (clsBody (top 39)).getD 6 (.Pass ⟨0, 0, 0, 0⟩)
abbrev S_m_Parting_blocks : Stmt := (clsBody (top 39)).getD 3 (.Pass ⟨0, 0, 0, 0⟩)
abbrev S_require_way : Stmt := top 28
abbrev S_require_coprime : Stmt := top 27
abbrev S_m_Slope_rises : Stmt := (clsBody (top 21)).getD 3 (.Pass ⟨0, 0, 0, 0⟩)
abbrev S_m_Slope_steps : Stmt := (clsBody (top 21)).getD 4 (.Pass ⟨0, 0, 0, 0⟩)
abbrev S_require_flat : Stmt := top 40
abbrev S_require_slope : Stmt := top 26
abbrev S_count_of_ways : Stmt := top 30
abbrev S_way_count : Stmt := top 31
abbrev S_require_listed : Stmt := top 41
abbrev S_m_Way_slope : Stmt := (clsBody (top 25)).getD 2 (.Pass ⟨0, 0, 0, 0⟩)
abbrev S_lengths_with : Stmt := top 48
abbrev S_text_of_runs : Stmt := top 47
abbrev S_levels_of : Stmt := top 22
abbrev S_is_text_of : Stmt := top 23
abbrev S_is_way_text : Stmt := top 24
abbrev S_is_way : Stmt := top 29
abbrev S_m_Way___init__ : Stmt := (clsBody (top 25)).getD 1 (.Pass ⟨0, 0, 0, 0⟩)
abbrev S_feet_of : Stmt := top 42
abbrev S_m_Way_text : Stmt := (clsBody (top 25)).getD 3 (.Pass ⟨0, 0, 0, 0⟩)
abbrev S_m_Way_levels : Stmt := (clsBody (top 25)).getD 4 (.Pass ⟨0, 0, 0, 0⟩)
abbrev S_end_of_line : Stmt := top 43
abbrev S_lines_of : Stmt := top 44
abbrev S_blocks_of : Stmt := top 45
abbrev S_way_with : Stmt := top 49
abbrev S_parting_of : Stmt := top 46
abbrev S_turned_way : Stmt := top 50
abbrev S_kept : Stmt := top 51
abbrev S__law_are_turns_right : Stmt := top 61
abbrev S__law_right : Stmt := top 62
abbrev S__law_dice : Stmt := top 53
abbrev S_law : Stmt := top 63
def fa2 : List He.Fa := [.glo "_law_roll", .glo "_law_slope", .glo "_law_ring_slope", .int "GREATEST" (1000000000000000000000000000000000000000000000000000000000000), .glo "is_integer", .glo "is_from", .glo "require_from", .int "MAX_SIDE" (60), .mkr "Slope", .glo "Slope", .glo "_law_ways_listed", .glo "_law_levels", .glo "_law_lined_blocks", .glo "_law_ring_turned", .glo "require_integer", .glo "turned_point", .int "MAX_POINTS" (60), .glo "are_ascending", .glo "is_block", .glo "do_cross", .glo "are_blocks", .mkr "Parting", .glo "Parting", .meth "Parting" "turned_by", .glo "Way", .glo "require_way", .glo "require_coprime", .glo "require_flat", .glo "require_slope", .glo "count_of_ways", .glo "way_count", .int "MAX_PARTED" (5000), .glo "require_listed", .glo "lengths_with", .glo "text_of_runs", .str "RISE" "r", .glo "levels_of", .str "STEP" "s", .glo "is_text_of", .glo "is_way_text", .glo "is_way", .mkr "Way", .glo "feet_of", .glo "end_of_line", .glo "lines_of", .glo "blocks_of", .glo "way_with", .glo "parting_of", .glo "turned_way", .glo "kept", .glo "_law_are_turns_right", .glo "_law_right", .glo "_law_dice", .glo "law"]
def fa : List He.Fa := FREE.map He.Fa.free ++ fa2
def fy : List Fy := [.isi cs 3 (.ty "bool") [1], .isi cs 3 (.ty "int") [1, 2], .scls "Slope", .slot "Slope" "own_rises" 1, .slot "Slope" "own_steps" 2, .bi "gcd" "math.gcd", .slot "Slope" "own_common" 0, .scls "Parting", .slot "Parting" "own_blocks" 0, .slot "Parting" "own_size" 1, .isi cs 3 (.ty "tuple") [4], .prop "Parting" "blocks", .isi cs 3 (.cl "Way") [11], .prop "Slope" "rises", .prop "Slope" "steps", .isi cs 3 (.cl "Slope") [10], .bi "comb" "math.comb", .scls "Way", .slot "Way" "own_slope" 1, .prop "Way" "slope", .isi cs 3 (.ty "str") [3], .slot "Way" "own_text" 2, .slot "Way" "own_key" 0, .prop "Way" "text", .prop "Way" "levels"]
def fn : List DefY := [⟨fun K => He.ga K "_law_roll", "_law_roll", "_law_roll", defArgs S__law_roll, defBody S__law_roll, defScope S__law_roll, []⟩,
  ⟨fun K => He.ga K "_law_slope", "_law_slope", "_law_slope", defArgs S__law_slope, defBody S__law_slope, defScope S__law_slope, []⟩,
  ⟨fun K => He.ga K "_law_ring_slope", "_law_ring_slope", "_law_ring_slope", defArgs S__law_ring_slope, defBody S__law_ring_slope, defScope S__law_ring_slope, []⟩,
  ⟨fun K => He.ga K "is_integer", "is_integer", "is_integer", defArgs S_is_integer, defBody S_is_integer, defScope S_is_integer, []⟩,
  ⟨fun K => He.ga K "is_from", "is_from", "is_from", defArgs S_is_from, defBody S_is_from, defScope S_is_from, []⟩,
  ⟨fun K => He.ga K "require_from", "require_from", "require_from", defArgs S_require_from, defBody S_require_from, defScope S_require_from, []⟩,
  ⟨fun K => He.ma K (He.ga K "Slope") "__init__", "__init__", "Slope.__init__", defArgs S_m_Slope___init__, defBody S_m_Slope___init__, defScope S_m_Slope___init__, []⟩,
  ⟨fun K => He.ga K "_law_ways_listed", "_law_ways_listed", "_law_ways_listed", defArgs S__law_ways_listed, defBody S__law_ways_listed, defScope S__law_ways_listed, []⟩,
  ⟨fun K => He.ga K "_law_levels", "_law_levels", "_law_levels", defArgs S__law_levels, defBody S__law_levels, defScope S__law_levels, []⟩,
  ⟨fun K => He.ga K "_law_lined_blocks", "_law_lined_blocks", "_law_lined_blocks", defArgs S__law_lined_blocks, defBody S__law_lined_blocks, defScope S__law_lined_blocks, []⟩,
  ⟨fun K => He.ga K "_law_ring_turned", "_law_ring_turned", "_law_ring_turned", defArgs S__law_ring_turned, defBody S__law_ring_turned, defScope S__law_ring_turned, []⟩,
  ⟨fun K => He.ga K "require_integer", "require_integer", "require_integer", defArgs S_require_integer, defBody S_require_integer, defScope S_require_integer, []⟩,
  ⟨fun K => He.ga K "turned_point", "turned_point", "turned_point", defArgs S_turned_point, defBody S_turned_point, defScope S_turned_point, []⟩,
  ⟨fun K => He.ga K "are_ascending", "are_ascending", "are_ascending", defArgs S_are_ascending, defBody S_are_ascending, defScope S_are_ascending, []⟩,
  ⟨fun K => He.ga K "is_block", "is_block", "is_block", defArgs S_is_block, defBody S_is_block, defScope S_is_block, []⟩,
  ⟨fun K => He.ga K "do_cross", "do_cross", "do_cross", defArgs S_do_cross, defBody S_do_cross, defScope S_do_cross, []⟩,
  ⟨fun K => He.ga K "are_blocks", "are_blocks", "are_blocks", defArgs S_are_blocks, defBody S_are_blocks, defScope S_are_blocks, []⟩,
  ⟨fun K => He.ma K (He.ga K "Parting") "__init__", "__init__", "Parting.__init__", defArgs S_m_Parting___init__, defBody S_m_Parting___init__, defScope S_m_Parting___init__, []⟩,
  ⟨fun K => He.ma K (He.ga K "Parting") "turned_by", "turned_by", "Parting.turned_by", defArgs S_m_Parting_turned_by, defBody S_m_Parting_turned_by, defScope S_m_Parting_turned_by, []⟩,
  ⟨fun K => gAd K "Parting" "blocks", "blocks", "Parting.blocks", defArgs S_m_Parting_blocks, defBody S_m_Parting_blocks, defScope S_m_Parting_blocks, []⟩,
  ⟨fun K => He.ga K "require_way", "require_way", "require_way", defArgs S_require_way, defBody S_require_way, defScope S_require_way, []⟩,
  ⟨fun K => He.ga K "require_coprime", "require_coprime", "require_coprime", defArgs S_require_coprime, defBody S_require_coprime, defScope S_require_coprime, []⟩,
  ⟨fun K => gAd K "Slope" "rises", "rises", "Slope.rises", defArgs S_m_Slope_rises, defBody S_m_Slope_rises, defScope S_m_Slope_rises, []⟩,
  ⟨fun K => gAd K "Slope" "steps", "steps", "Slope.steps", defArgs S_m_Slope_steps, defBody S_m_Slope_steps, defScope S_m_Slope_steps, []⟩,
  ⟨fun K => He.ga K "require_flat", "require_flat", "require_flat", defArgs S_require_flat, defBody S_require_flat, defScope S_require_flat, []⟩,
  ⟨fun K => He.ga K "require_slope", "require_slope", "require_slope", defArgs S_require_slope, defBody S_require_slope, defScope S_require_slope, []⟩,
  ⟨fun K => He.ga K "count_of_ways", "count_of_ways", "count_of_ways", defArgs S_count_of_ways, defBody S_count_of_ways, defScope S_count_of_ways, []⟩,
  ⟨fun K => He.ga K "way_count", "way_count", "way_count", defArgs S_way_count, defBody S_way_count, defScope S_way_count, []⟩,
  ⟨fun K => He.ga K "require_listed", "require_listed", "require_listed", defArgs S_require_listed, defBody S_require_listed, defScope S_require_listed, []⟩,
  ⟨fun K => gAd K "Way" "slope", "slope", "Way.slope", defArgs S_m_Way_slope, defBody S_m_Way_slope, defScope S_m_Way_slope, []⟩,
  ⟨fun K => He.ga K "lengths_with", "lengths_with", "lengths_with", defArgs S_lengths_with, defBody S_lengths_with, defScope S_lengths_with, []⟩,
  ⟨fun K => He.ga K "text_of_runs", "text_of_runs", "text_of_runs", defArgs S_text_of_runs, defBody S_text_of_runs, defScope S_text_of_runs, []⟩,
  ⟨fun K => He.ga K "levels_of", "levels_of", "levels_of", defArgs S_levels_of, defBody S_levels_of, defScope S_levels_of, []⟩,
  ⟨fun K => He.ga K "is_text_of", "is_text_of", "is_text_of", defArgs S_is_text_of, defBody S_is_text_of, defScope S_is_text_of, []⟩,
  ⟨fun K => He.ga K "is_way_text", "is_way_text", "is_way_text", defArgs S_is_way_text, defBody S_is_way_text, defScope S_is_way_text, []⟩,
  ⟨fun K => He.ga K "is_way", "is_way", "is_way", defArgs S_is_way, defBody S_is_way, defScope S_is_way, []⟩,
  ⟨fun K => He.ma K (He.ga K "Way") "__init__", "__init__", "Way.__init__", defArgs S_m_Way___init__, defBody S_m_Way___init__, defScope S_m_Way___init__, []⟩,
  ⟨fun K => He.ga K "feet_of", "feet_of", "feet_of", defArgs S_feet_of, defBody S_feet_of, defScope S_feet_of, []⟩,
  ⟨fun K => gAd K "Way" "text", "text", "Way.text", defArgs S_m_Way_text, defBody S_m_Way_text, defScope S_m_Way_text, []⟩,
  ⟨fun K => gAd K "Way" "levels", "levels", "Way.levels", defArgs S_m_Way_levels, defBody S_m_Way_levels, defScope S_m_Way_levels, []⟩,
  ⟨fun K => He.ga K "end_of_line", "end_of_line", "end_of_line", defArgs S_end_of_line, defBody S_end_of_line, defScope S_end_of_line, []⟩,
  ⟨fun K => He.ga K "lines_of", "lines_of", "lines_of", defArgs S_lines_of, defBody S_lines_of, defScope S_lines_of, []⟩,
  ⟨fun K => He.ga K "blocks_of", "blocks_of", "blocks_of", defArgs S_blocks_of, defBody S_blocks_of, defScope S_blocks_of, []⟩,
  ⟨fun K => He.ga K "way_with", "way_with", "way_with", defArgs S_way_with, defBody S_way_with, defScope S_way_with, []⟩,
  ⟨fun K => He.ga K "parting_of", "parting_of", "parting_of", defArgs S_parting_of, defBody S_parting_of, defScope S_parting_of, []⟩,
  ⟨fun K => He.ga K "turned_way", "turned_way", "turned_way", defArgs S_turned_way, defBody S_turned_way, defScope S_turned_way, []⟩,
  ⟨fun K => He.ga K "kept", "kept", "kept", defArgs S_kept, defBody S_kept, defScope S_kept, []⟩,
  ⟨fun K => He.ga K "_law_are_turns_right", "_law_are_turns_right", "_law_are_turns_right", defArgs S__law_are_turns_right, defBody S__law_are_turns_right, defScope S__law_are_turns_right, []⟩,
  ⟨fun K => He.ga K "_law_right", "_law_right", "_law_right", defArgs S__law_right, defBody S__law_right, defScope S__law_right, []⟩,
  ⟨fun K => He.ga K "_law_dice", "_law_dice", "_law_dice", defArgs S__law_dice, defBody S__law_dice, defScope S__law_dice, []⟩,
  ⟨fun K => He.ga K "law", "law", "law", defArgs S_law, defBody S_law, defScope S_law, []⟩]
abbrev R : PySem.W.OpenRow := PySem.W.OpenLaw.row PySem.Challenge.rw_slantways_k80_whole_turns_of_partings
noncomputable abbrev hk : PySem.W.Hook := hookY 5 fa fy fn
noncomputable def ob (s : PySem.W.SharedT) : AlY := obsYG 5 fa fy fn (HandSHeadRun.getT s)
theorem ob_eq (s : PySem.W.SharedT) : ob s = hk.obs s.abs := obsYG_eq (HandSHeadRun.getT_eq s)
def loose0 : List PySem.Str := ["_wall", "__name__", "SlantError", "InvalidSlope", "InvalidWay", "InvalidParting", "InvalidNumber", "TooMany", "Refused", "GREATEST", "is_integer", "require_integer", "is_from", "require_from", "are_ascending", "MAX_SIDE", "RISE", "STEP", "Slope", "levels_of"]
def loose1 : List PySem.Str := ["is_text_of", "is_way_text", "Way", "require_slope", "require_coprime", "require_way", "is_way", "count_of_ways", "way_count", "MAX_POINTS", "MAX_PARTED", "is_block", "do_cross", "are_blocks", "turned_point", "Parting", "require_flat", "require_listed", "feet_of", "end_of_line"]
def loose2 : List PySem.Str := ["lines_of", "blocks_of", "parting_of", "text_of_runs", "lengths_with", "way_with", "turned_way", "kept", "_law_dice", "_law_roll", "_law_slope", "_law_levels", "_law_ways_listed", "_law_ring_slope", "_law_lined_blocks", "_law_ring_turned", "_law_are_turns_right", "_law_right"]
def loose : List PySem.Str := loose0 ++ (loose1 ++ (loose2))
theorem run (w : World) : HandSHeadRun.RunEqI R (PySem.W.view R.prog [0, 63]) hk ob 20000 loose w := by
  unfold HandSHeadRun.RunEqI
  kernel_rfl
abbrev TT (w : World) (K : PySem.W.Frag) : Tab := mkTab w cs K
theorem nm_0 : (cs.getD 0 ("", 0)).1 = Str.ofString "Slope" := by decide +kernel
theorem cl_0 {w : World} {K : PySem.W.Frag} : (TT w K).cls 0 = He.ga K (Str.ofString "Slope") := congrArg (He.ga K) nm_0
theorem nm_1 : (cs.getD 1 ("", 0)).1 = Str.ofString "Way" := by decide +kernel
theorem cl_1 {w : World} {K : PySem.W.Frag} : (TT w K).cls 1 = He.ga K (Str.ofString "Way") := congrArg (He.ga K) nm_1
theorem nm_2 : (cs.getD 2 ("", 0)).1 = Str.ofString "Parting" := by decide +kernel
theorem cl_2 {w : World} {K : PySem.W.Frag} : (TT w K).cls 2 = He.ga K (Str.ofString "Parting") := congrArg (He.ga K) nm_2
abbrev EV (w : World) (K : PySem.W.Frag) (mg : Str → Option Value) : Prop := Ev fa fy fn w K mg
theorem fre {w : World} {K : PySem.W.Frag} {mg : Str → Option Value} (V : EV w K mg) : ∀ nm ∈ FREE, mg nm = none := fun nm hm => by
  obtain ⟨h, X, G⟩ := V.ns
  obtain ⟨i, hi, e⟩ := List.mem_iff_getElem.mp (show He.Fa.free nm ∈ fa from List.mem_append_left _ (List.mem_map_of_mem hm))
  exact He.free_ok X G (V.c.fact i (f := .free nm) (by rw [List.getElem?_eq_getElem hi, e]))
theorem k_GREATEST {w : World} {K : PySem.W.Frag} {mg : Str → Option Value} (V : EV w K mg) : ∃ u, mg "GREATEST" = some u ∧ RelV (.int 1000000000000000000000000000000000000000000000000000000000000) u := V.int 27
theorem isi_ty_bool {w : World} {K : PySem.W.Frag} {mg : Str → Option Value} (V : EV w K mg) : IsiOk K (TT w K) 3 (TyF.v K (.ty "bool")) [1] := isi_ok (V.c.fy_ 0 (f := .isi cs 3 (.ty "bool") [1]))
theorem isi_ty_int {w : World} {K : PySem.W.Frag} {mg : Str → Option Value} (V : EV w K mg) : IsiOk K (TT w K) 3 (TyF.v K (.ty "int")) [1, 2] := isi_ok (V.c.fy_ 1 (f := .isi cs 3 (.ty "int") [1, 2]))
theorem k_MAX_SIDE {w : World} {K : PySem.W.Frag} {mg : Str → Option Value} (V : EV w K mg) : ∃ u, mg "MAX_SIDE" = some u ∧ RelV (.int 60) u := V.int 31
theorem sl_Slope_own_rises {w : World} {K : PySem.W.Frag} {mg : Str → Option Value} (V : EV w K mg) : SlotAt K ((TT w K).cls 0) "own_rises" 1 := by
  rw [cl_0]
  exact slotAt_ok (V.c.fy_ 2 (f := .scls "Slope")) (V.c.fy_ 3 (f := .slot "Slope" "own_rises" 1))
theorem sl_Slope_own_steps {w : World} {K : PySem.W.Frag} {mg : Str → Option Value} (V : EV w K mg) : SlotAt K ((TT w K).cls 0) "own_steps" 2 := by
  rw [cl_0]
  exact slotAt_ok (V.c.fy_ 2 (f := .scls "Slope")) (V.c.fy_ 4 (f := .slot "Slope" "own_steps" 2))
theorem bi_gcd {w : World} {K : PySem.W.Frag} {mg : Str → Option Value} (V : EV w K mg) : mg "gcd" = some (.builtin "math.gcd") := V.bi 5
theorem sl_Slope_own_common {w : World} {K : PySem.W.Frag} {mg : Str → Option Value} (V : EV w K mg) : SlotAt K ((TT w K).cls 0) "own_common" 0 := by
  rw [cl_0]
  exact slotAt_ok (V.c.fy_ 2 (f := .scls "Slope")) (V.c.fy_ 6 (f := .slot "Slope" "own_common" 0))
theorem g_Slope {w : World} {K : PySem.W.Frag} {mg : Str → Option Value} (V : EV w K mg) : mg "Slope" = some (.ref (He.ga K "Slope")) := V.glo 33
theorem gc_Slope {w : World} {K : PySem.W.Frag} {mg : Str → Option Value} (V : EV w K mg) : mg "Slope" = some (.ref ((TT w K).cls 0)) := by
  rw [cl_0]
  exact g_Slope V
theorem sl_Parting_own_blocks {w : World} {K : PySem.W.Frag} {mg : Str → Option Value} (V : EV w K mg) : SlotAt K ((TT w K).cls 2) "own_blocks" 0 := by
  rw [cl_2]
  exact slotAt_ok (V.c.fy_ 7 (f := .scls "Parting")) (V.c.fy_ 8 (f := .slot "Parting" "own_blocks" 0))
theorem sl_Parting_own_size {w : World} {K : PySem.W.Frag} {mg : Str → Option Value} (V : EV w K mg) : SlotAt K ((TT w K).cls 2) "own_size" 1 := by
  rw [cl_2]
  exact slotAt_ok (V.c.fy_ 7 (f := .scls "Parting")) (V.c.fy_ 9 (f := .slot "Parting" "own_size" 1))
theorem k_MAX_POINTS {w : World} {K : PySem.W.Frag} {mg : Str → Option Value} (V : EV w K mg) : ∃ u, mg "MAX_POINTS" = some u ∧ RelV (.int 60) u := V.int 40
theorem isi_ty_tuple {w : World} {K : PySem.W.Frag} {mg : Str → Option Value} (V : EV w K mg) : IsiOk K (TT w K) 3 (TyF.v K (.ty "tuple")) [4] := isi_ok (V.c.fy_ 10 (f := .isi cs 3 (.ty "tuple") [4]))
theorem g_Parting {w : World} {K : PySem.W.Frag} {mg : Str → Option Value} (V : EV w K mg) : mg "Parting" = some (.ref (He.ga K "Parting")) := V.glo 46
theorem gc_Parting {w : World} {K : PySem.W.Frag} {mg : Str → Option Value} (V : EV w K mg) : mg "Parting" = some (.ref ((TT w K).cls 2)) := by
  rw [cl_2]
  exact g_Parting V
theorem isi_cl_Way {w : World} {K : PySem.W.Frag} {mg : Str → Option Value} (V : EV w K mg) : IsiOk K (TT w K) 3 (TyF.v K (.cl "Way")) [11] := isi_ok (V.c.fy_ 12 (f := .isi cs 3 (.cl "Way") [11]))
theorem g_Way {w : World} {K : PySem.W.Frag} {mg : Str → Option Value} (V : EV w K mg) : mg "Way" = some (.ref (He.ga K "Way")) := V.glo 48
theorem isi_cl_Slope {w : World} {K : PySem.W.Frag} {mg : Str → Option Value} (V : EV w K mg) : IsiOk K (TT w K) 3 (TyF.v K (.cl "Slope")) [10] := isi_ok (V.c.fy_ 15 (f := .isi cs 3 (.cl "Slope") [10]))
theorem bi_comb {w : World} {K : PySem.W.Frag} {mg : Str → Option Value} (V : EV w K mg) : mg "comb" = some (.builtin "math.comb") := V.bi 16
theorem k_MAX_PARTED {w : World} {K : PySem.W.Frag} {mg : Str → Option Value} (V : EV w K mg) : ∃ u, mg "MAX_PARTED" = some u ∧ RelV (.int 5000) u := V.int 55
theorem sl_Way_own_slope {w : World} {K : PySem.W.Frag} {mg : Str → Option Value} (V : EV w K mg) : SlotAt K ((TT w K).cls 1) "own_slope" 1 := by
  rw [cl_1]
  exact slotAt_ok (V.c.fy_ 17 (f := .scls "Way")) (V.c.fy_ 18 (f := .slot "Way" "own_slope" 1))
theorem k_RISE {w : World} {K : PySem.W.Frag} {mg : Str → Option Value} (V : EV w K mg) : ∃ u, mg "RISE" = some u ∧ RelV (.str "r") u := V.str 59
theorem isi_ty_str {w : World} {K : PySem.W.Frag} {mg : Str → Option Value} (V : EV w K mg) : IsiOk K (TT w K) 3 (TyF.v K (.ty "str")) [3] := isi_ok (V.c.fy_ 20 (f := .isi cs 3 (.ty "str") [3]))
theorem k_STEP {w : World} {K : PySem.W.Frag} {mg : Str → Option Value} (V : EV w K mg) : ∃ u, mg "STEP" = some u ∧ RelV (.str "s") u := V.str 61
theorem sl_Way_own_text {w : World} {K : PySem.W.Frag} {mg : Str → Option Value} (V : EV w K mg) : SlotAt K ((TT w K).cls 1) "own_text" 2 := by
  rw [cl_1]
  exact slotAt_ok (V.c.fy_ 17 (f := .scls "Way")) (V.c.fy_ 21 (f := .slot "Way" "own_text" 2))
theorem sl_Way_own_key {w : World} {K : PySem.W.Frag} {mg : Str → Option Value} (V : EV w K mg) : SlotAt K ((TT w K).cls 1) "own_key" 0 := by
  rw [cl_1]
  exact slotAt_ok (V.c.fy_ 17 (f := .scls "Way")) (V.c.fy_ 22 (f := .slot "Way" "own_key" 0))
theorem gc_Way {w : World} {K : PySem.W.Frag} {mg : Str → Option Value} (V : EV w K mg) : mg "Way" = some (.ref ((TT w K).cls 1)) := by
  rw [cl_1]
  exact g_Way V
noncomputable def b__law_roll : SCode := (sSeq (sIf (tVal (eBin oGtR (eBin oIxD (eVar (nat_lit 0)) (eC (.int (.ofNat (nat_lit 0))))) (eC (.int (.ofNat (nat_lit 0)))))) (sSeq (sAsg (eBin oModR (eL oIntR (aCons (eBin oIxD (eVar (nat_lit 0)) (eC (.int (.ofNat (nat_lit 0))))) aNil)) (eVar (nat_lit 1))) (gVar (nat_lit 2))) (sSeq (sAsg (eBin oDivR (eBin oIxD (eVar (nat_lit 0)) (eC (.int (.ofNat (nat_lit 0))))) (eVar (nat_lit 1))) (gSubC (eVar (nat_lit 0)) (eC (.int (.ofNat (nat_lit 0)))) oSet)) (sRet (eVar (nat_lit 2))))) sPass) (sSeq (sAsg (eBin (oAddR false) (eBin oIxD (eVar (nat_lit 0)) (eC (.int (.ofNat (nat_lit 2))))) (eC (.int (.ofNat (nat_lit 1))))) (gSubC (eVar (nat_lit 0)) (eC (.int (.ofNat (nat_lit 2)))) oSet)) (sSeq (sAsg (eBin oModR (eL oIntR (aCons (eBin (oAddR false) (eBin oIxD (eVar (nat_lit 0)) (eC (.int (.ofNat (nat_lit 1))))) (eBin (oMulR false) (eC (.int (.ofNat (nat_lit 104395301)))) (eBin oIxD (eVar (nat_lit 0)) (eC (.int (.ofNat (nat_lit 2))))))) aNil)) (eC (.int (.ofNat (nat_lit 2305843009213693613))))) (gVar (nat_lit 3))) (sSeq (sAsg (eBin (oAddR false) (eBin (oMulR false) (eBin oModR (eL oIntR (aCons (eBin (oAddR false) (eBin (oMulR false) (eVar (nat_lit 3)) (eVar (nat_lit 3))) (eBin (oMulR false) (eC (.int (.ofNat (nat_lit 107)))) (eBin oIxD (eVar (nat_lit 0)) (eC (.int (.ofNat (nat_lit 2))))))) aNil)) (eC (.int (.ofNat (nat_lit 2305843009213693519))))) (eC (.int (.ofNat (nat_lit 3021377))))) (eVar (nat_lit 3))) (gVar (nat_lit 4))) (sRet (eBin oModR (eL oIntR (aCons (eBin oDivR (eVar (nat_lit 4)) (eC (.int (.ofNat (nat_lit 65536))))) aNil)) (eVar (nat_lit 1))))))))
noncomputable def c__law_roll : FCode := (fnC [none, none, none] b__law_roll)
theorem sc__law_roll : FnScope ["_law_dice_here", "_law_total", "_law_found", "_law_one", "_law_two"] ["_law_dice_here", "_law_total"] (defScope S__law_roll) := ⟨rfl, rfl, rfl, by decide +kernel, rfl, by decide +kernel, by decide +kernel⟩
theorem bo__law_roll {w : World} {K : PySem.W.Frag} {mg : Str → Option Value} (base : Heap) (V : EV w K mg) : BodyOk PP w K mg base ["_law_dice_here", "_law_total", "_law_found", "_law_one", "_law_two"] "_law_roll" (defScope S__law_roll) (TT w K) 0 (defBody S__law_roll) b__law_roll := fun f cdv A outer s H E x hr pa =>
  (sndss_cons (snds_if (gtcmp (ol_gtR x) (gix x gv gI) gI) (sndss_cons (gset x (snd_bin or_modR (gTy x cb_intR (ga1 (gix x gv gI) snda_nil) (hv := bt_int)) gv)) (sndss_cons (gasg (snd_bin or_divR (gix x gv gI) gv) (gsub x gv gI)) (sndss_one (snds_ret gv)))) sndss_nil) (sndss_cons (gasg (snd_bin (or_addR _) (gix x gv gI) gI) (gsub x gv gI)) (sndss_cons (gset x (snd_bin or_modR (gTy x cb_intR (ga1 (snd_bin (or_addR _) (gix x gv gI) (snd_bin (or_mulR _) gI (gix x gv gI))) snda_nil) (hv := bt_int)) gI)) (sndss_cons (gset x (snd_bin (or_addR _) (snd_bin (or_mulR _) (snd_bin or_modR (gTy x cb_intR (ga1 (snd_bin (or_addR _) (snd_bin (or_mulR _) gv gv) (snd_bin (or_mulR _) gI (gix x gv gI))) snda_nil) (hv := bt_int)) gI) gI) gv)) (sndss_one (snds_ret (snd_bin or_modR (gTy x cb_intR (ga1 (snd_bin or_divR gv gI) snda_nil) (hv := bt_int)) gv)))))))
theorem ok__law_roll {w : World} {K : PySem.W.Frag} {mg : Str → Option Value} (base : Heap) (V : EV w K mg) : FnG PP w K mg base "_law_roll" 1 2 (TT w K) c__law_roll := by
  obtain ⟨fd, F⟩ := V.c.def_ 0
  exact ⟨⟨_, fd, _, fn_pr F sc__law_roll rfl (fre V) (bo__law_roll base V) rfl rfl rfl, V.glo 24, F.kp, F.bindsN fun _ _ _ _ _ _ us hl => match us, hl with | [_, _], _ => rfl⟩⟩
theorem kk_roll : allB (nat_lit 100) (fun t => rollOk c__law_roll (.ofNat (Nat.succ t))) = true := by decide +kernel
theorem okc__law_roll {w : World} {K : PySem.W.Frag} {mg : Str → Option Value} (base : Heap) (V : EV w K mg) : FnG PP w K mg base "_law_roll" 1 2 (TT w K) (rollC (nat_lit 100)) := (ok__law_roll base V).cut fun _ _ _ _ h => sp_roll (roll_all kk_roll) h
noncomputable def b__law_slope : SCode := (sSeq (sAsg (eBin (oAdd false) (eC (.int (.ofNat (nat_lit 1)))) (eSplit (eCall (rollC (nat_lit 100)) (aCons (eVar (nat_lit 0)) (aCons (eBin oSub (eVar (nat_lit 1)) (eC (.int (.ofNat (nat_lit 1))))) aNil))))) (gVar (nat_lit 2))) (sSeq (sAsg (eBin (oAdd false) (eC (.int (.ofNat (nat_lit 1)))) (eSplit (eCall (rollC (nat_lit 100)) (aCons (eVar (nat_lit 0)) (aCons (eBin oSub (eVar (nat_lit 1)) (eVar (nat_lit 2))) aNil))))) (gVar (nat_lit 3))) (sSeq (sPar (nat_lit 4) (nat_lit 5) (aCons (eVar (nat_lit 2)) (aCons (eVar (nat_lit 3)) aNil))) (sSeq (sWhile (tVal (eBin oGtX (eVar (nat_lit 5)) (eC (.int (.ofNat (nat_lit 0)))))) (sPar (nat_lit 4) (nat_lit 5) (aCons (eVar (nat_lit 5)) (aCons (eBin oSub (eVar (nat_lit 4)) (eBin (oMul false) (eBin oDiv (eVar (nat_lit 4)) (eVar (nat_lit 5))) (eVar (nat_lit 5)))) aNil)))) (sRet (eL oTup (aCons (eBin oDiv (eVar (nat_lit 2)) (eVar (nat_lit 4))) (aCons (eBin oDiv (eVar (nat_lit 3)) (eVar (nat_lit 4))) aNil))))))))
noncomputable def c__law_slope : FCode := (fnC [none, none, none, none] b__law_slope)
theorem sc__law_slope : FnScope ["_law_dice_here", "_law_total", "_law_rises", "_law_steps", "_law_one", "_law_other"] ["_law_dice_here", "_law_total"] (defScope S__law_slope) := ⟨rfl, rfl, rfl, by decide +kernel, rfl, by decide +kernel, by decide +kernel⟩
theorem bo__law_slope {w : World} {K : PySem.W.Frag} {mg : Str → Option Value} (base : Heap) (V : EV w K mg) : BodyOk PP w K mg base ["_law_dice_here", "_law_total", "_law_rises", "_law_steps", "_law_one", "_law_other"] "_law_slope" (defScope S__law_slope) (TT w K) 1 (defBody S__law_slope) b__law_slope := fun f cdv A outer s H E x hr pa =>
  (sndss_cons (gset x (snd_bin (or_add _) gI (snd_split (g_call x (hr.mono (by decide)) (okc__law_roll base V) (ga1 gv (ga1 (snd_bin or_sub gv gI) snda_nil)))))) (sndss_cons (gset x (snd_bin (or_add _) gI (snd_split (g_call x (hr.mono (by decide)) (okc__law_roll base V) (ga1 gv (ga1 (snd_bin or_sub gv gv) snda_nil)))))) (sndss_cons (gpar x (ga1 gv (ga1 gv snda_nil))) (sndss_cons (snds_while pa (gtcmp (ol_gt x) gv gI) (sndss_one (gpar x (ga1 gv (ga1 (snd_bin or_sub gv (snd_bin (or_mul _) (snd_bin or_div gv gv) gv)) snda_nil))))) (sndss_one (snds_ret (gtup (ga1 (snd_bin or_div gv gv) (ga1 (snd_bin or_div gv gv) snda_nil)))))))))
theorem ok__law_slope {w : World} {K : PySem.W.Frag} {mg : Str → Option Value} (base : Heap) (V : EV w K mg) : FnG PP w K mg base "_law_slope" 2 2 (TT w K) c__law_slope := by
  obtain ⟨fd, F⟩ := V.c.def_ 1
  exact ⟨⟨_, fd, _, fn_pr F sc__law_slope rfl (fre V) (bo__law_slope base V) rfl rfl rfl, V.glo 25, F.kp, F.bindsN fun _ _ _ _ _ _ us hl => match us, hl with | [_, _], _ => rfl⟩⟩
noncomputable def b__law_ring_slope : SCode := (sSeq (sAsg (eCall c__law_slope (aCons (eVar (nat_lit 0)) (aCons (eVar (nat_lit 1)) aNil))) (gTups (gConss (gVar (nat_lit 2)) (gConss (gVar (nat_lit 3)) gNils)))) (sSeq (sIf (tVal (eBin oEq (eVar (nat_lit 2)) (eVar (nat_lit 3)))) (sRet (eL oTup (aCons (eC (.int (.ofNat (nat_lit 1)))) (aCons (eBin (oAdd false) (eC (.int (.ofNat (nat_lit 1)))) (eC (.int (.ofNat (nat_lit 1))))) aNil)))) sPass) (sRet (eL oTup (aCons (eL oMin2 (aCons (eVar (nat_lit 2)) (aCons (eVar (nat_lit 3)) aNil))) (aCons (eL oMax2 (aCons (eVar (nat_lit 2)) (aCons (eVar (nat_lit 3)) aNil))) aNil))))))
noncomputable def c__law_ring_slope : FCode := (fnC [none, none] b__law_ring_slope)
theorem sc__law_ring_slope : FnScope ["_law_dice_here", "_law_total", "_law_rises", "_law_steps"] ["_law_dice_here", "_law_total"] (defScope S__law_ring_slope) := ⟨rfl, rfl, rfl, by decide +kernel, rfl, by decide +kernel, by decide +kernel⟩
theorem bo__law_ring_slope {w : World} {K : PySem.W.Frag} {mg : Str → Option Value} (base : Heap) (V : EV w K mg) : BodyOk PP w K mg base ["_law_dice_here", "_law_total", "_law_rises", "_law_steps"] "_law_ring_slope" (defScope S__law_ring_slope) (TT w K) 2 (defBody S__law_ring_slope) b__law_ring_slope := fun f cdv A outer s H E x hr pa =>
  (sndss_cons (gasg (g_call x (hr.mono (by decide)) (ok__law_slope base V) (ga1 gv (ga1 gv snda_nil))) (ggt x (ggs (ggv x) (ggs (ggv x) sndgs_nil)) (glen_cons (gthru_var _) (glen_cons (gthru_var _) glen_nil)))) (sndss_cons (snds_if (gtcmp (ol_eq x) gv gv) (sndss_one (snds_ret (gtup (ga1 gI (ga1 (snd_bin (or_add _) gI gI) snda_nil))))) sndss_nil) (sndss_one (snds_ret (gtup (ga1 (gB x (cb_min2 x.hc) (ga1 gv (ga1 gv snda_nil)) (hv := bt_min)) (ga1 (gB x (cb_max2 x.hc) (ga1 gv (ga1 gv snda_nil)) (hv := bt_max)) snda_nil)))))))
theorem ok__law_ring_slope {w : World} {K : PySem.W.Frag} {mg : Str → Option Value} (base : Heap) (V : EV w K mg) : FnG PP w K mg base "_law_ring_slope" 3 2 (TT w K) c__law_ring_slope := by
  obtain ⟨fd, F⟩ := V.c.def_ 2
  exact ⟨⟨_, fd, _, fn_pr F sc__law_ring_slope rfl (fre V) (bo__law_ring_slope base V) rfl rfl rfl, V.glo 26, F.kp, F.bindsN fun _ _ _ _ _ _ us hl => match us, hl with | [_, _], _ => rfl⟩⟩
noncomputable def b_is_integer : SCode := (sRet (eAnd (eUn (oIsi (nat_lit 3) [(nat_lit 1), (nat_lit 2)]) (eVar (nat_lit 0))) (eAnd (eUn oNotB (eUn (oIsi (nat_lit 3) [(nat_lit 1)]) (eVar (nat_lit 0)))) (eChain oLtR oLtR (eUn oNeg (eC (.int (.ofNat (nat_lit 1000000000000000000000000000000000000000000000000000000000000))))) (eVar (nat_lit 0)) (eC (.int (.ofNat (nat_lit 1000000000000000000000000000000000000000000000000000000000000))))))))
noncomputable def c_is_integer : FCode := pureF (fnC [] b_is_integer)
theorem sc_is_integer : FnScope ["value"] ["value"] (defScope S_is_integer) := ⟨rfl, rfl, rfl, by decide +kernel, rfl, by decide +kernel, by decide +kernel⟩
theorem bo_is_integer {w : World} {K : PySem.W.Frag} {mg : Str → Option Value} (base : Heap) (V : EV w K mg) : BodyOk PP w K mg base ["value"] "is_integer" (defScope S_is_integer) (TT w K) 0 (defBody S_is_integer) b_is_integer := fun f cdv A outer s H E x hr pa =>
  (sndss_one (snds_ret (snd_and (gisiT (n := "int") x (isi_ty_int V) gv (hv := bt_int)) (snd_and (snd_not (gisiT (n := "bool") x (isi_ty_bool V) gv (hv := bt_bool))) (snd_one (snd_chain (ol_ltR x) (ol_ltR x) (snd_un ur_neg (gGI (k_GREATEST V))) gv (gGI (k_GREATEST V)) rfl))))))
theorem ok_is_integer {w : World} {K : PySem.W.Frag} {mg : Str → Option Value} (base : Heap) (V : EV w K mg) : FnG PP w K mg base "is_integer" 1 1 (TT w K) c_is_integer := by
  obtain ⟨fd, F⟩ := V.c.def_ 3
  exact ⟨⟨_, fd, _, (fn_pr F sc_is_integer rfl (fre V) (bo_is_integer base V) rfl rfl rfl).imp fun _ _ _ _ q => sp_pure q, V.glo 28, F.kp, F.bindsN fun _ _ _ _ _ _ us hl => match us, hl with | [_], _ => rfl⟩⟩
noncomputable def b_is_from : SCode := (sRet (eAnd (eCall c_is_integer (aCons (eVar (nat_lit 0)) aNil)) (eChain oLeX oLeX (eVar (nat_lit 1)) (eVar (nat_lit 0)) (eVar (nat_lit 2)))))
noncomputable def c_is_from : FCode := pureF (fnC [] b_is_from)
theorem sc_is_from : FnScope ["value", "least", "most"] ["value", "least", "most"] (defScope S_is_from) := ⟨rfl, rfl, rfl, by decide +kernel, rfl, by decide +kernel, by decide +kernel⟩
theorem bo_is_from {w : World} {K : PySem.W.Frag} {mg : Str → Option Value} (base : Heap) (V : EV w K mg) : BodyOk PP w K mg base ["value", "least", "most"] "is_from" (defScope S_is_from) (TT w K) 1 (defBody S_is_from) b_is_from := fun f cdv A outer s H E x hr pa =>
  (sndss_one (snds_ret (snd_and (g_call x (hr.mono (by decide)) (ok_is_integer base V) (ga1 gv snda_nil)) (snd_one (snd_chain (ol_le x) (ol_le x) gv gv gv rfl)))))
theorem ok_is_from {w : World} {K : PySem.W.Frag} {mg : Str → Option Value} (base : Heap) (V : EV w K mg) : FnG PP w K mg base "is_from" 2 3 (TT w K) c_is_from := by
  obtain ⟨fd, F⟩ := V.c.def_ 4
  exact ⟨⟨_, fd, _, (fn_pr F sc_is_from rfl (fre V) (bo_is_from base V) rfl rfl rfl).imp fun _ _ _ _ q => sp_pure q, V.glo 29, F.kp, F.bindsN fun _ _ _ _ _ _ us hl => match us, hl with | [_, _, _], _ => rfl⟩⟩
noncomputable def b_require_from : SCode := (sIf (tNot (tVal (eCall c_is_from (aCons (eVar (nat_lit 0)) (aCons (eVar (nat_lit 1)) (aCons (eVar (nat_lit 2)) aNil)))))) sNever sPass)
noncomputable def c_require_from : FCode := pureF (fnC [] b_require_from)
theorem sc_require_from : FnScope ["value", "least", "most"] ["value", "least", "most"] (defScope S_require_from) := ⟨rfl, rfl, rfl, by decide +kernel, rfl, by decide +kernel, by decide +kernel⟩
theorem bo_require_from {w : World} {K : PySem.W.Frag} {mg : Str → Option Value} (base : Heap) (V : EV w K mg) : BodyOk PP w K mg base ["value", "least", "most"] "require_from" (defScope S_require_from) (TT w K) 2 (defBody S_require_from) b_require_from := fun f cdv A outer s H E x hr pa =>
  (sndss_one (snds_if (sndt_not (gtv (g_call x (hr.mono (by decide)) (ok_is_from base V) (ga1 gv (ga1 gv (ga1 gv snda_nil)))))) (sndss_one snds_never) sndss_nil))
theorem ok_require_from {w : World} {K : PySem.W.Frag} {mg : Str → Option Value} (base : Heap) (V : EV w K mg) : FnG PP w K mg base "require_from" 3 3 (TT w K) c_require_from := by
  obtain ⟨fd, F⟩ := V.c.def_ 5
  exact ⟨⟨_, fd, _, (fn_pr F sc_require_from rfl (fre V) (bo_require_from base V) rfl rfl rfl).imp fun _ _ _ _ q => sp_pure q, V.glo 30, F.kp, F.bindsN fun _ _ _ _ _ _ us hl => match us, hl with | [_, _, _], _ => rfl⟩⟩
noncomputable def b_m_Slope___init__ : SCode := (sSeq (sExpr (eCall c_require_from (aCons (eVar (nat_lit 1)) (aCons (eC (.int (.ofNat (nat_lit 1)))) (aCons (eC (.int (.ofNat (nat_lit 60)))) aNil))))) (sSeq (sExpr (eCall c_require_from (aCons (eVar (nat_lit 2)) (aCons (eC (.int (.ofNat (nat_lit 1)))) (aCons (eC (.int (.ofNat (nat_lit 60)))) aNil))))) (sSeq (sSlot (((nat_lit 0), (nat_lit 1)) :: []) (eVar (nat_lit 0)) (eVar (nat_lit 1))) (sSeq (sSlot (((nat_lit 0), (nat_lit 2)) :: []) (eVar (nat_lit 0)) (eVar (nat_lit 2))) (sSlot (((nat_lit 0), (nat_lit 0)) :: []) (eVar (nat_lit 0)) (eL oGcd (aCons (eVar (nat_lit 1)) (aCons (eVar (nat_lit 2)) aNil))))))))
noncomputable def c_m_Slope___init__ : FCode := (fnC [] b_m_Slope___init__)
theorem sc_m_Slope___init__ : FnScope ["self", "rises", "steps"] ["self", "rises", "steps"] (defScope S_m_Slope___init__) := ⟨rfl, rfl, rfl, by decide +kernel, rfl, by decide +kernel, by decide +kernel⟩
theorem bo_m_Slope___init__ {w : World} {K : PySem.W.Frag} {mg : Str → Option Value} (base : Heap) (V : EV w K mg) : BodyOk PP w K mg base ["self", "rises", "steps"] "Slope.__init__" (defScope S_m_Slope___init__) (TT w K) 3 (defBody S_m_Slope___init__) b_m_Slope___init__ := fun f cdv A outer s H E x hr pa =>
  (sndss_cons (gexpr (g_call x (hr.mono (by decide)) (ok_require_from base V) (ga1 gv (ga1 gI (ga1 (gGI (k_MAX_SIDE V)) snda_nil))))) (sndss_cons (gexpr (g_call x (hr.mono (by decide)) (ok_require_from base V) (ga1 gv (ga1 gI (ga1 (gGI (k_MAX_SIDE V)) snda_nil))))) (sndss_cons (gslot gv gv (tbc (sl_Slope_own_rises V) tbn)) (sndss_cons (gslot gv gv (tbc (sl_Slope_own_steps V) tbn)) (sndss_one (gslot gv (gM cb_gcd (bi_gcd V) (ga1 gv (ga1 gv snda_nil))) (tbc (sl_Slope_own_common V) tbn)))))))
theorem ok_m_Slope___init__ {w : World} {K : PySem.W.Frag} {mg : Str → Option Value} (base : Heap) (V : EV w K mg) : MakeG PP w K mg base ((TT w K).cls 0) 4 (spOf (TT w K) 3 c_m_Slope___init__) := by
  obtain ⟨fd, F⟩ := V.c.def_ 6
  rw [cl_0]
  exact ⟨⟨_, fd, _, He.mkr_ok (V.c.fact 32 (f := .mkr "Slope")), fn_pr F sc_m_Slope___init__ rfl (fre V) (bo_m_Slope___init__ base V) rfl rfl rfl, F.bindsN fun _ _ _ _ _ _ us hl => match us, hl with | [_, _, _], _ => rfl⟩⟩
noncomputable def b__law_ways_listed : SCode := (sSeq (sAsg (eL oLst (aCons (eL oTup (aCons (eC (.str [])) (aCons (eC (.int (.ofNat (nat_lit 0)))) (aCons (eC (.int (.ofNat (nat_lit 0)))) aNil)))) aNil)) (gVar (nat_lit 2))) (sSeq (sFor (iRng1 (aCons (eBin (oAdd false) (eVar (nat_lit 0)) (eVar (nat_lit 1))) aNil)) (gVar (nat_lit 3)) (sSeq (sAsg (eL oCell aNil) (gVar (nat_lit 4))) (sSeq (sFor (iValD (eVar (nat_lit 2))) (gTups (gConss (gVar (nat_lit 5)) (gConss (gVar (nat_lit 6)) (gConss (gVar (nat_lit 7)) gNils)))) (sSeq (sIf (tVal (eBin oLtX (eVar (nat_lit 6)) (eVar (nat_lit 0)))) (sExpr (eBm none (some mAppend) none (eVar (nat_lit 4)) (aCons (eL oTup (aCons (eBin (oAdd false) (eVar (nat_lit 5)) (eC (.str [nat_lit 114]))) (aCons (eBin (oAdd false) (eVar (nat_lit 6)) (eC (.int (.ofNat (nat_lit 1))))) (aCons (eVar (nat_lit 7)) aNil)))) aNil))) sPass) (sIf (tAnd (tVal (eBin oLtX (eVar (nat_lit 7)) (eVar (nat_lit 1)))) (tVal (eBin oGeX (eBin (oMul false) (eVar (nat_lit 1)) (eVar (nat_lit 6))) (eBin (oMul false) (eVar (nat_lit 0)) (eBin (oAdd false) (eVar (nat_lit 7)) (eC (.int (.ofNat (nat_lit 1))))))))) (sExpr (eBm none (some mAppend) none (eVar (nat_lit 4)) (aCons (eL oTup (aCons (eBin (oAdd false) (eVar (nat_lit 5)) (eC (.str [nat_lit 115]))) (aCons (eVar (nat_lit 6)) (aCons (eBin (oAdd false) (eVar (nat_lit 7)) (eC (.int (.ofNat (nat_lit 1))))) aNil)))) aNil))) sPass))) (sAsg (eL (oListD false) (aCons (eVar (nat_lit 4)) aNil)) (gVar (nat_lit 2)))))) (sRet (eLc false (iValD (eVar (nat_lit 2))) [(nat_lit 8)] (gVar (nat_lit 8)) tYesC (eBin oIxD (eVar (nat_lit 8)) (eC (.int (.ofNat (nat_lit 0)))))))))
noncomputable def c__law_ways_listed : FCode := pureF (fnC [none, none, none, none, none, none, none] b__law_ways_listed)
theorem sc__law_ways_listed : FnScope ["_law_rises", "_law_steps", "_law_found", "_law_turn", "_law_more", "_law_text", "_law_up", "_law_over", "_law_row"] ["_law_rises", "_law_steps"] (defScope S__law_ways_listed) := ⟨rfl, rfl, rfl, by decide +kernel, rfl, by decide +kernel, by decide +kernel⟩
theorem bo__law_ways_listed {w : World} {K : PySem.W.Frag} {mg : Str → Option Value} (base : Heap) (V : EV w K mg) : BodyOk PP w K mg base ["_law_rises", "_law_steps", "_law_found", "_law_turn", "_law_more", "_law_text", "_law_up", "_law_over", "_law_row"] "_law_ways_listed" (defScope S__law_ways_listed) (TT w K) 0 (defBody S__law_ways_listed) b__law_ways_listed := fun f cdv A outer s H E x hr pa =>
  (sndss_cons (gset x (glst (ga1 (gtup (ga1 gS (ga1 gI (ga1 gI snda_nil)))) snda_nil))) (sndss_cons (gfor x pa (grng1 x (ga1 (snd_bin (or_add _) gv gv) snda_nil)) (ggv x) (sndss_cons (gset x (gcell snda_nil)) (sndss_cons (gfor x pa (sndi_valD gv) (ggt x (ggs (ggv x) (ggs (ggv x) (ggs (ggv x) sndgs_nil))) (glen_cons (gthru_var _) (glen_cons (gthru_var _) (glen_cons (gthru_var _) glen_nil)))) (sndss_cons (snds_if (gtcmp (ol_lt x) gv gv) (sndss_one (gexpr (gbm gv (ga1 (gtup (ga1 (snd_bin (or_add _) gv gS) (ga1 (snd_bin (or_add _) gv gI) (ga1 gv snda_nil)))) snda_nil) (fun _ h => nomatch h) (fun _ h => by cases h; exact bm_append) (fun _ h => nomatch h)))) sndss_nil) (sndss_one (snds_if (sndt_w (sndw_and (gtcmp (ol_lt x) gv gv) (sndw_and1 (gtcmp (ol_ge x) (snd_bin (or_mul _) gv gv) (snd_bin (or_mul _) gv (snd_bin (or_add _) gv gI)))))) (sndss_one (gexpr (gbm gv (ga1 (gtup (ga1 (snd_bin (or_add _) gv gS) (ga1 gv (ga1 (snd_bin (or_add _) gv gI) snda_nil)))) snda_nil) (fun _ h => nomatch h) (fun _ h => by cases h; exact bm_append) (fun _ h => nomatch h)))) sndss_nil)))) (sndss_one (gset x (gTy x (cb_listD x.hc _) (ga1 gv snda_nil) (hv := bt_list))))))) (sndss_one (snds_ret (glc [("_law_row", 8)] x (sndi_valD gv) (fun _ _ _ _ _ => (gbv x.b)) (fun _ _ _ _ _ => sndts_nil) (fun _ _ _ _ _ => (gix x.b gv gI)))))))
theorem ok__law_ways_listed {w : World} {K : PySem.W.Frag} {mg : Str → Option Value} (base : Heap) (V : EV w K mg) : FnG PP w K mg base "_law_ways_listed" 1 2 (TT w K) c__law_ways_listed := by
  obtain ⟨fd, F⟩ := V.c.def_ 7
  exact ⟨⟨_, fd, _, (fn_pr F sc__law_ways_listed rfl (fre V) (bo__law_ways_listed base V) rfl rfl rfl).imp fun _ _ _ _ q => sp_pure q, V.glo 34, F.kp, F.bindsN fun _ _ _ _ _ _ us hl => match us, hl with | [_, _], _ => rfl⟩⟩
noncomputable def b__law_levels : SCode := (sSeq (sPar (nat_lit 3) (nat_lit 4) (aCons (eL oCell aNil) (aCons (eC (.int (.ofNat (nat_lit 0)))) aNil))) (sSeq (sFor (iValD (eVar (nat_lit 2))) (gVar (nat_lit 5)) (sSeq (sExpr (eBm none (some mAppend) none (eVar (nat_lit 3)) (aCons (eVar (nat_lit 4)) aNil))) (sAsg (eBin (oAdd false) (eVar (nat_lit 4)) (eIf (tVal (eBin oEq (eVar (nat_lit 5)) (eC (.str [nat_lit 114])))) (eVar (nat_lit 1)) (eUn oNeg (eVar (nat_lit 0))))) (gVar (nat_lit 4))))) (sRet (eFrz (eVar (nat_lit 3))))))
noncomputable def c__law_levels : FCode := pureF (fnC [none, none, none] b__law_levels)
theorem sc__law_levels : FnScope ["_law_rises", "_law_steps", "_law_text", "_law_found", "_law_level", "_law_sign"] ["_law_rises", "_law_steps", "_law_text"] (defScope S__law_levels) := ⟨rfl, rfl, rfl, by decide +kernel, rfl, by decide +kernel, by decide +kernel⟩
theorem bo__law_levels {w : World} {K : PySem.W.Frag} {mg : Str → Option Value} (base : Heap) (V : EV w K mg) : BodyOk PP w K mg base ["_law_rises", "_law_steps", "_law_text", "_law_found", "_law_level", "_law_sign"] "_law_levels" (defScope S__law_levels) (TT w K) 0 (defBody S__law_levels) b__law_levels := fun f cdv A outer s H E x hr pa =>
  (sndss_cons (gpar x (ga1 (gcell snda_nil) (ga1 gI snda_nil))) (sndss_cons (gfor x pa (sndi_valD gv) (ggv x) (sndss_cons (gexpr (gbm gv (ga1 gv snda_nil) (fun _ h => nomatch h) (fun _ h => by cases h; exact bm_append) (fun _ h => nomatch h))) (sndss_one (gset x (snd_bin (or_add _) gv (snd_if (gtcmp (ol_eq x) gv gS) gv (snd_un ur_neg gv))))))) (sndss_one (snds_ret (snd_frz gv)))))
theorem ok__law_levels {w : World} {K : PySem.W.Frag} {mg : Str → Option Value} (base : Heap) (V : EV w K mg) : FnG PP w K mg base "_law_levels" 1 3 (TT w K) c__law_levels := by
  obtain ⟨fd, F⟩ := V.c.def_ 8
  exact ⟨⟨_, fd, _, (fn_pr F sc__law_levels rfl (fre V) (bo__law_levels base V) rfl rfl rfl).imp fun _ _ _ _ q => sp_pure q, V.glo 35, F.kp, F.bindsN fun _ _ _ _ _ _ us hl => match us, hl with | [_, _, _], _ => rfl⟩⟩
noncomputable def b__law_lined_blocks : SCode := (sSeq (sUnp (aCons (eCall c__law_levels (aCons (eVar (nat_lit 0)) (aCons (eVar (nat_lit 1)) (aCons (eVar (nat_lit 2)) aNil)))) (aCons (eL oCell aNil) (aCons (eC (.int (.ofNat (nat_lit 0)))) aNil))) (gConss (gVar (nat_lit 3)) (gConss (gVar (nat_lit 4)) (gConss (gVar (nat_lit 5)) gNils)))) (sSeq (sFor (iEnu (eVar (nat_lit 2))) (gTups (gConss (gVar (nat_lit 6)) (gConss (gVar (nat_lit 7)) gNils))) (sSeq (sIf (tAnd (tVal (eBin oEq (eVar (nat_lit 7)) (eC (.str [nat_lit 114])))) (tAnd (tVal (eBin oGtX (eVar (nat_lit 6)) (eC (.int (.ofNat (nat_lit 0)))))) (tVal (eBin oEq (eBin oIxD (eVar (nat_lit 2)) (eBin oSub (eVar (nat_lit 6)) (eC (.int (.ofNat (nat_lit 1)))))) (eC (.str [nat_lit 115])))))) (sSeq (sAsg (eLc false (iRng2 (aCons (eVar (nat_lit 6)) (aCons (eL oLen (aCons (eVar (nat_lit 2)) aNil)) aNil))) [(nat_lit 9)] (gVar (nat_lit 9)) (tAnd (tVal (eBin oEq (eBin oIxD (eVar (nat_lit 2)) (eVar (nat_lit 9))) (eC (.str [nat_lit 115])))) (tVal (eBin oGtX (eBin oIxD (eVar (nat_lit 3)) (eVar (nat_lit 9))) (eBin oIxD (eVar (nat_lit 3)) (eVar (nat_lit 6)))))) (eVar (nat_lit 9))) (gVar (nat_lit 8))) (sSeq (sAsg (eL oMin1 (aCons (eLc false (iValD (eVar (nat_lit 8))) [(nat_lit 9)] (gVar (nat_lit 9)) (tVal (eBin oLtX (eBin oSub (eBin oIxD (eVar (nat_lit 3)) (eVar (nat_lit 9))) (eVar (nat_lit 0))) (eBin oIxD (eVar (nat_lit 3)) (eVar (nat_lit 6))))) (eVar (nat_lit 9))) aNil)) (gVar (nat_lit 10))) (sExpr (eBm none (some mAppend) none (eVar (nat_lit 4)) (aCons (eL oTup (aCons (eBin (oAdd false) (eVar (nat_lit 5)) (eC (.int (.ofNat (nat_lit 1))))) (aCons (eBm (some mSCount) none none (eSl false (eVar (nat_lit 2)) pNone (pSome (eVar (nat_lit 10)))) (aCons (eC (.str [nat_lit 115])) aNil)) aNil))) aNil))))) sPass) (sAsg (eBin (oAdd false) (eVar (nat_lit 5)) (eL oInt (aCons (eBin oEq (eVar (nat_lit 7)) (eC (.str [nat_lit 115]))) aNil))) (gVar (nat_lit 5))))) (sSeq (sAsg eDic0 (gVar (nat_lit 11))) (sSeq (sFor (iRng2 (aCons (eC (.int (.ofNat (nat_lit 1)))) (aCons (eVar (nat_lit 1)) aNil))) (gVar (nat_lit 12)) (sSeq (sAsg (eL oTuple (aCons (eLc false (iValD (eVar (nat_lit 4))) [(nat_lit 14), (nat_lit 15)] (gTups (gConss (gVar (nat_lit 14)) (gConss (gVar (nat_lit 15)) gNils))) tYesC (eL oInt (aCons (eChain oLeX oLeX (eVar (nat_lit 14)) (eVar (nat_lit 12)) (eVar (nat_lit 15))) aNil))) aNil)) (gVar (nat_lit 13))) (sAsg (eBin (oAdd false) (eBm none none (some mGet) (eVar (nat_lit 11)) (aCons (eVar (nat_lit 13)) (aCons (eL oTup aNil) aNil))) (eL oTup (aCons (eVar (nat_lit 12)) aNil))) (gSubC (eVar (nat_lit 11)) (eVar (nat_lit 13)) oSet)))) (sRet (eL (oSorted false) (aCons (eLVals false (eVar (nat_lit 11))) aNil)))))))
noncomputable def c__law_lined_blocks : FCode := pureF (fnC [none, none, none, none, none, none, none, none, none, none, none, none, none] b__law_lined_blocks)
theorem sc__law_lined_blocks : FnScope ["_law_rises", "_law_steps", "_law_text", "_law_levels_here", "_law_lines", "_law_over", "_law_at", "_law_sign", "_law_ends", "_law_spot", "_law_end", "_law_found", "_law_point", "_law_sides", "_law_low", "_law_high"] ["_law_rises", "_law_steps", "_law_text"] (defScope S__law_lined_blocks) := ⟨rfl, rfl, rfl, by decide +kernel, rfl, by decide +kernel, by decide +kernel⟩
theorem bo__law_lined_blocks {w : World} {K : PySem.W.Frag} {mg : Str → Option Value} (base : Heap) (V : EV w K mg) : BodyOk PP w K mg base ["_law_rises", "_law_steps", "_law_text", "_law_levels_here", "_law_lines", "_law_over", "_law_at", "_law_sign", "_law_ends", "_law_spot", "_law_end", "_law_found", "_law_point", "_law_sides", "_law_low", "_law_high"] "_law_lined_blocks" (defScope S__law_lined_blocks) (TT w K) 1 (defBody S__law_lined_blocks) b__law_lined_blocks := fun f cdv A outer s H E x hr pa =>
  (sndss_cons (gunp x (ga1 (g_call x (hr.mono (by decide)) (ok__law_levels base V) (ga1 (gv (hv := .inr (.inl rfl))) (ga1 gv (ga1 (gv (hv := .inr (.inl rfl))) snda_nil)))) (ga1 (gcell snda_nil) (ga1 gI snda_nil))) (ggs (ggv x (hx := .inr rfl) (hf := .inl rfl)) (ggs (ggv x) (ggs (ggv x) sndgs_nil)))) (sndss_cons (gfor x pa (genu x (gv (hv := .inr (.inl rfl)))) (ggt x (ggs (ggv x (hx := .inr rfl) (hf := .inl rfl)) (ggs (ggv x) sndgs_nil)) (glen_cons (gthru_var _) (glen_cons (gthru_var _) glen_nil))) (sndss_cons (snds_if (sndt_w (sndw_and (gtcmp (ol_eq x) gv gS) (sndw_and (gtcmp (ol_gt x) (gv (hv := .inr (.inl rfl))) gI) (sndw_and1 (gtcmp (ol_eq x) (gix x (gv (hv := .inr (.inl rfl))) (snd_bin or_sub (gv (hv := .inr (.inl rfl))) gI)) gS))))) (sndss_cons (gsetlc [("_law_spot", 9)] x (grng2 x (ga1 (gv (hv := .inr (.inl rfl))) (ga1 (gB x cb_len (ga1 (gv (hv := .inr (.inl rfl))) snda_nil) (hv := bt_len)) snda_nil))) (fun _ _ _ _ _ => (gbv x.b)) (fun _ _ _ _ _ => (sndts_one (sndt_w (sndw_and (gtcmp (ol_eq x.b) (gix x.b (gv (hv := .inr (.inl rfl))) gv) gS) (sndw_and1 (gtcmp (ol_gt x.b) (gix x.b (gv (hv := .inr (.inl rfl))) gv) (gix x.b (gv (hv := .inr (.inl rfl))) (gv (hv := .inr (.inl rfl)))))))))) (fun _ _ _ _ _ => gv)) (sndss_cons (gset x (gB x (cb_min1 x.hc) (ga1 (glc [("_law_spot", 9)] x (sndi_valD gv) (fun _ _ _ _ _ => (gbv x.b)) (fun _ _ _ _ _ => (sndts_one (gtcmp (ol_lt x.b) (snd_bin or_sub (gix x.b (gv (hv := .inr (.inl rfl))) gv) (gv (hv := .inr (.inl rfl)))) (gix x.b (gv (hv := .inr (.inl rfl))) (gv (hv := .inr (.inl rfl))))))) (fun _ _ _ _ _ => gv)) snda_nil) (hv := bt_min))) (sndss_one (gexpr (gbm gv (ga1 (gtup (ga1 (snd_bin (or_add _) gv gI) (ga1 (gbm (snd_slice (gv (hv := .inr (.inl rfl))) sndp_none (sndp_some gv)) (ga1 gS snda_nil) (fun _ h => by cases h; exact bm_scount) (fun _ h => nomatch h) (fun _ h => nomatch h)) snda_nil))) snda_nil) (fun _ h => nomatch h) (fun _ h => by cases h; exact bm_append) (fun _ h => nomatch h)))))) sndss_nil) (sndss_one (gset x (snd_bin (or_add _) gv (gTy x cb_int (ga1 (gcmp (ol_eq x) gv gS) snda_nil) (hv := bt_int))))))) (sndss_cons (gset x snd_dic0) (sndss_cons (gfor x pa (grng2 x (ga1 gI (ga1 gv snda_nil))) (ggv x (hx := .inr rfl) (hf := .inl rfl)) (sndss_cons (gset x (gTy x cb_tuple (ga1 (glc [("_law_low", 14), ("_law_high", 15)] x (sndi_valD gv) (fun _ _ _ _ _ => (gbt x.b (gbs (gbv x.b) (gbs (gbv x.b) sndgvs_nil)) (glen_cons (gthru_var _) (glen_cons (gthru_var _) glen_nil)))) (fun _ _ _ _ _ => sndts_nil) (fun _ _ _ _ _ => (gTy x.b cb_int (ga1 (snd_chain (ol_le x.b) (ol_le x.b) gv (gv (hv := .inr (.inl rfl))) gv rfl) snda_nil) (hv := bt_int)))) snda_nil) (hv := bt_tuple))) (sndss_one (gasg (snd_bin (or_add _) (gbm gv (ga1 gv (ga1 (gtup snda_nil) snda_nil)) (fun _ h => nomatch h) (fun _ h => nomatch h) (fun _ h => by cases h; exact (ol_get x))) (gtup (ga1 (gv (hv := .inr (.inl rfl))) snda_nil))) (gsub x gv gv))))) (sndss_one (snds_ret (gB x (ol_sorted x _) (ga1 (glvals x gv) snda_nil) (hv := bt_sorted))))))))
theorem ok__law_lined_blocks {w : World} {K : PySem.W.Frag} {mg : Str → Option Value} (base : Heap) (V : EV w K mg) : FnG PP w K mg base "_law_lined_blocks" 2 3 (TT w K) c__law_lined_blocks := by
  obtain ⟨fd, F⟩ := V.c.def_ 9
  exact ⟨⟨_, fd, _, (fn_pr F sc__law_lined_blocks rfl (fre V) (bo__law_lined_blocks base V) rfl rfl rfl).imp fun _ _ _ _ q => sp_pure q, V.glo 36, F.kp, F.bindsN fun _ _ _ _ _ _ us hl => match us, hl with | [_, _, _], _ => rfl⟩⟩
noncomputable def b__law_ring_turned : SCode := (sRet (eL (oSorted false) (aCons (eLc false (iValD (eVar (nat_lit 1))) [(nat_lit 4)] (gVar (nat_lit 4)) tYesC (eL oTuple (aCons (eL (oSorted false) (aCons (eLc false (iValD (eVar (nat_lit 4))) [(nat_lit 3)] (gVar (nat_lit 3)) tYesC (eBin (oAddR false) (eBin oModR (eL oIntR (aCons (eBin (oAddR false) (eBin oSubR (eVar (nat_lit 3)) (eC (.int (.ofNat (nat_lit 1))))) (eVar (nat_lit 2))) aNil)) (eVar (nat_lit 0))) (eC (.int (.ofNat (nat_lit 1)))))) aNil)) aNil))) aNil)))
noncomputable def c__law_ring_turned : FCode := pureF (fnC [none, none] b__law_ring_turned)
theorem sc__law_ring_turned : FnScope ["_law_size", "_law_blocks", "_law_many", "_law_point", "_law_block"] ["_law_size", "_law_blocks", "_law_many"] (defScope S__law_ring_turned) := ⟨rfl, rfl, rfl, by decide +kernel, rfl, by decide +kernel, by decide +kernel⟩
theorem bo__law_ring_turned {w : World} {K : PySem.W.Frag} {mg : Str → Option Value} (base : Heap) (V : EV w K mg) : BodyOk PP w K mg base ["_law_size", "_law_blocks", "_law_many", "_law_point", "_law_block"] "_law_ring_turned" (defScope S__law_ring_turned) (TT w K) 0 (defBody S__law_ring_turned) b__law_ring_turned := fun f cdv A outer s H E x hr pa =>
  (sndss_one (snds_ret (gB x (ol_sorted x _) (ga1 (glc [("_law_block", 4)] x (sndi_valD gv) (fun _ _ _ _ _ => (gbv x.b)) (fun _ _ _ _ _ => sndts_nil) (fun _ _ _ _ _ => (gTy x.b cb_tuple (ga1 (gB x.b (ol_sorted x.b _) (ga1 (glc [("_law_point", 3)] x.b (sndi_valD gv) (fun _ _ _ _ _ => (gbv x.b.b)) (fun _ _ _ _ _ => sndts_nil) (fun _ _ _ _ _ => (snd_bin (or_addR _) (snd_bin or_modR (gTy x.b.b cb_intR (ga1 (snd_bin (or_addR _) (snd_bin or_subR gv gI) (gv (hv := .inr (.inl rfl)))) snda_nil) (hv := bt_int)) (gv (hv := .inr (.inl rfl)))) gI))) snda_nil) (hv := bt_sorted)) snda_nil) (hv := bt_tuple)))) snda_nil) (hv := bt_sorted))))
theorem ok__law_ring_turned {w : World} {K : PySem.W.Frag} {mg : Str → Option Value} (base : Heap) (V : EV w K mg) : FnG PP w K mg base "_law_ring_turned" 1 3 (TT w K) c__law_ring_turned := by
  obtain ⟨fd, F⟩ := V.c.def_ 10
  exact ⟨⟨_, fd, _, (fn_pr F sc__law_ring_turned rfl (fre V) (bo__law_ring_turned base V) rfl rfl rfl).imp fun _ _ _ _ q => sp_pure q, V.glo 37, F.kp, F.bindsN fun _ _ _ _ _ _ us hl => match us, hl with | [_, _, _], _ => rfl⟩⟩
noncomputable def b_require_integer : SCode := (sIf (tNot (tVal (eCall c_is_integer (aCons (eVar (nat_lit 0)) aNil)))) sNever sPass)
noncomputable def c_require_integer : FCode := pureF (fnC [] b_require_integer)
theorem sc_require_integer : FnScope ["value"] ["value"] (defScope S_require_integer) := ⟨rfl, rfl, rfl, by decide +kernel, rfl, by decide +kernel, by decide +kernel⟩
theorem bo_require_integer {w : World} {K : PySem.W.Frag} {mg : Str → Option Value} (base : Heap) (V : EV w K mg) : BodyOk PP w K mg base ["value"] "require_integer" (defScope S_require_integer) (TT w K) 1 (defBody S_require_integer) b_require_integer := fun f cdv A outer s H E x hr pa =>
  (sndss_one (snds_if (sndt_not (gtv (g_call x (hr.mono (by decide)) (ok_is_integer base V) (ga1 gv snda_nil)))) (sndss_one snds_never) sndss_nil))
theorem ok_require_integer {w : World} {K : PySem.W.Frag} {mg : Str → Option Value} (base : Heap) (V : EV w K mg) : FnG PP w K mg base "require_integer" 2 1 (TT w K) c_require_integer := by
  obtain ⟨fd, F⟩ := V.c.def_ 11
  exact ⟨⟨_, fd, _, (fn_pr F sc_require_integer rfl (fre V) (bo_require_integer base V) rfl rfl rfl).imp fun _ _ _ _ q => sp_pure q, V.glo 38, F.kp, F.bindsN fun _ _ _ _ _ _ us hl => match us, hl with | [_], _ => rfl⟩⟩
noncomputable def b_turned_point : SCode := (sRet (eBin (oAddR false) (eBin oModR (eBin (oAddR false) (eBin oSubR (eVar (nat_lit 1)) (eC (.int (.ofNat (nat_lit 1))))) (eVar (nat_lit 2))) (eVar (nat_lit 0))) (eC (.int (.ofNat (nat_lit 1))))))
noncomputable def c_turned_point : FCode := pureF (fnC [] b_turned_point)
theorem sc_turned_point : FnScope ["size", "point", "many"] ["size", "point", "many"] (defScope S_turned_point) := ⟨rfl, rfl, rfl, by decide +kernel, rfl, by decide +kernel, by decide +kernel⟩
theorem bo_turned_point {w : World} {K : PySem.W.Frag} {mg : Str → Option Value} (base : Heap) (V : EV w K mg) : BodyOk PP w K mg base ["size", "point", "many"] "turned_point" (defScope S_turned_point) (TT w K) 0 (defBody S_turned_point) b_turned_point := fun f cdv A outer s H E x hr pa =>
  (sndss_one (snds_ret (snd_bin (or_addR _) (snd_bin or_modR (snd_bin (or_addR _) (snd_bin or_subR gv gI) gv) gv) gI)))
theorem ok_turned_point {w : World} {K : PySem.W.Frag} {mg : Str → Option Value} (base : Heap) (V : EV w K mg) : FnG PP w K mg base "turned_point" 1 3 (TT w K) c_turned_point := by
  obtain ⟨fd, F⟩ := V.c.def_ 12
  exact ⟨⟨_, fd, _, (fn_pr F sc_turned_point rfl (fre V) (bo_turned_point base V) rfl rfl rfl).imp fun _ _ _ _ q => sp_pure q, V.glo 39, F.kp, F.bindsN fun _ _ _ _ _ _ us hl => match us, hl with | [_, _, _], _ => rfl⟩⟩
noncomputable def b_are_ascending : SCode := (sRet (eL oAll (aCons (eLc false (iZip (eVar (nat_lit 0)) (eSl false (eVar (nat_lit 0)) (pSome (eC (.int (.ofNat (nat_lit 1))))) pNone)) [(nat_lit 1), (nat_lit 2)] (gTups (gConss (gVar (nat_lit 1)) (gConss (gVar (nat_lit 2)) gNils))) tYesC (eBin oLtX (eVar (nat_lit 1)) (eVar (nat_lit 2)))) aNil)))
noncomputable def c_are_ascending : FCode := pureF (fnC [none, none] b_are_ascending)
theorem sc_are_ascending : FnScope ["items", "one", "other"] ["items"] (defScope S_are_ascending) := ⟨rfl, rfl, rfl, by decide +kernel, rfl, by decide +kernel, by decide +kernel⟩
theorem bo_are_ascending {w : World} {K : PySem.W.Frag} {mg : Str → Option Value} (base : Heap) (V : EV w K mg) : BodyOk PP w K mg base ["items", "one", "other"] "are_ascending" (defScope S_are_ascending) (TT w K) 0 (defBody S_are_ascending) b_are_ascending := fun f cdv A outer s H E x hr pa =>
  (sndss_one (snds_ret (gB x (cb_all x.hc) (ga1 (glc [("one", 1), ("other", 2)] x (gzip x gv (snd_slice gv (sndp_some gI) sndp_none)) (fun _ _ _ _ _ => (gbt x.b (gbs (gbv x.b) (gbs (gbv x.b) sndgvs_nil)) (glen_cons (gthru_var _) (glen_cons (gthru_var _) glen_nil)))) (fun _ _ _ _ _ => sndts_nil) (fun _ _ _ _ _ => (gcmp (ol_lt x.b) gv gv))) snda_nil) (hv := bt_all))))
theorem ok_are_ascending {w : World} {K : PySem.W.Frag} {mg : Str → Option Value} (base : Heap) (V : EV w K mg) : FnG PP w K mg base "are_ascending" 1 1 (TT w K) c_are_ascending := by
  obtain ⟨fd, F⟩ := V.c.def_ 13
  exact ⟨⟨_, fd, _, (fn_pr F sc_are_ascending rfl (fre V) (bo_are_ascending base V) rfl rfl rfl).imp fun _ _ _ _ q => sp_pure q, V.glo 41, F.kp, F.bindsN fun _ _ _ _ _ _ us hl => match us, hl with | [_], _ => rfl⟩⟩
noncomputable def b_is_block : SCode := (sSeq (sIf (tOr (tNot (tVal (eUn (oIsi (nat_lit 3) [(nat_lit 4)]) (eVar (nat_lit 1))))) (tOr (tVal (eBin oEq (eVar (nat_lit 1)) (eL oTup aNil))) (tNot (tVal (eL oAll (aCons (eLc false (iValD (eVar (nat_lit 1))) [(nat_lit 2)] (gVar (nat_lit 2)) tYesC (eCall c_is_from (aCons (eVar (nat_lit 2)) (aCons (eC (.int (.ofNat (nat_lit 1)))) (aCons (eVar (nat_lit 0)) aNil))))) aNil)))))) (sRet (eC (.bl false))) sPass) (sRet (eCall c_are_ascending (aCons (eVar (nat_lit 1)) aNil))))
noncomputable def c_is_block : FCode := pureF (fnC [none] b_is_block)
theorem sc_is_block : FnScope ["size", "value", "point"] ["size", "value"] (defScope S_is_block) := ⟨rfl, rfl, rfl, by decide +kernel, rfl, by decide +kernel, by decide +kernel⟩
theorem bo_is_block {w : World} {K : PySem.W.Frag} {mg : Str → Option Value} (base : Heap) (V : EV w K mg) : BodyOk PP w K mg base ["size", "value", "point"] "is_block" (defScope S_is_block) (TT w K) 2 (defBody S_is_block) b_is_block := fun f cdv A outer s H E x hr pa =>
  (sndss_cons (snds_if (sndt_w (sndw_or (sndt_not (gtv (gisiT (n := "tuple") x (isi_ty_tuple V) gv (hv := bt_tuple)))) (sndw_or (gtcmp (ol_eq x) gv (gtup snda_nil)) (sndw_or1 (sndt_not (gtv (gB x (cb_all x.hc) (ga1 (glc [("point", 2)] x (sndi_valD gv) (fun _ _ _ _ _ => (gbv x.b)) (fun _ _ _ _ _ => sndts_nil) (fun _ _ _ _ _ => (g_call x.b (hr.mono (by decide)) (ok_is_from base V) (ga1 gv (ga1 gI (ga1 (gv (hv := .inr (.inl rfl))) snda_nil)))))) snda_nil) (hv := bt_all)))))))) (sndss_one (snds_ret gBl)) sndss_nil) (sndss_one (snds_ret (g_call x (hr.mono (by decide)) (ok_are_ascending base V) (ga1 gv snda_nil)))))
theorem ok_is_block {w : World} {K : PySem.W.Frag} {mg : Str → Option Value} (base : Heap) (V : EV w K mg) : FnG PP w K mg base "is_block" 3 2 (TT w K) c_is_block := by
  obtain ⟨fd, F⟩ := V.c.def_ 14
  exact ⟨⟨_, fd, _, (fn_pr F sc_is_block rfl (fre V) (bo_is_block base V) rfl rfl rfl).imp fun _ _ _ _ q => sp_pure q, V.glo 42, F.kp, F.bindsN fun _ _ _ _ _ _ us hl => match us, hl with | [_, _], _ => rfl⟩⟩
noncomputable def b_do_cross : SCode := (sSeq (sAsg (eDc2 (iEnu (eVar (nat_lit 1))) [(nat_lit 3), (nat_lit 4), (nat_lit 5)] (gTups (gConss (gVar (nat_lit 3)) (gConss (gVar (nat_lit 4)) gNils))) tYesC (iValD (eVar (nat_lit 4))) [(nat_lit 5)] (gVar (nat_lit 5)) tYesC (eVar (nat_lit 5)) (eVar (nat_lit 3))) (gVar (nat_lit 2))) (sSeq (sAsg (eL oCell aNil) (gVar (nat_lit 6))) (sSeq (sFor (iRng2 (aCons (eC (.int (.ofNat (nat_lit 1)))) (aCons (eBin (oAdd false) (eVar (nat_lit 0)) (eC (.int (.ofNat (nat_lit 1))))) aNil))) (gVar (nat_lit 5)) (sSeq (sAsg (eBin oIxD (eVar (nat_lit 1)) (eBin oIxD (eVar (nat_lit 2)) (eVar (nat_lit 5)))) (gVar (nat_lit 4))) (sSeq (sIf (tVal (eBin oEq (eVar (nat_lit 5)) (eBin oIxD (eVar (nat_lit 4)) (eC (.int (.ofNat (nat_lit 0))))))) (sExpr (eBm none (some mAppend) none (eVar (nat_lit 6)) (aCons (eBin oIxD (eVar (nat_lit 2)) (eVar (nat_lit 5))) aNil))) (sIf (tVal (eBin oNe (eBin oIxD (eVar (nat_lit 6)) (eUn oNeg (eC (.int (.ofNat (nat_lit 1)))))) (eBin oIxD (eVar (nat_lit 2)) (eVar (nat_lit 5))))) (sRet (eC (.bl true))) sPass)) (sIf (tVal (eBin oEq (eVar (nat_lit 5)) (eBin oIxD (eVar (nat_lit 4)) (eUn oNeg (eC (.int (.ofNat (nat_lit 1)))))))) (sExpr (eBm none (some mPop) none (eVar (nat_lit 6)) aNil)) sPass)))) (sRet (eC (.bl false))))))
noncomputable def c_do_cross : FCode := pureF (fnC [none, none, none, none, none] b_do_cross)
theorem sc_do_cross : FnScope ["size", "blocks", "owner", "at", "block", "point", "waiting"] ["size", "blocks"] (defScope S_do_cross) := ⟨rfl, rfl, rfl, by decide +kernel, rfl, by decide +kernel, by decide +kernel⟩
theorem bo_do_cross {w : World} {K : PySem.W.Frag} {mg : Str → Option Value} (base : Heap) (V : EV w K mg) : BodyOk PP w K mg base ["size", "blocks", "owner", "at", "block", "point", "waiting"] "do_cross" (defScope S_do_cross) (TT w K) 0 (defBody S_do_cross) b_do_cross := fun f cdv A outer s H E x hr pa =>
  (sndss_cons (gsetdc2 [("at", 3), ("block", 4), ("point", 5)] [(nat_lit 5)] x (genu x gv) (fun _ _ _ _ _ => (gbt x.b (gbs (gbv x.b) (gbs (gbv x.b) sndgvs_nil)) (glen_cons (gthru_var _) (glen_cons (gthru_var _) glen_nil)))) (fun _ _ _ _ _ => sndts_nil) (fun _ _ _ _ _ => (sndi_valD gv)) (fun _ _ _ _ _ => (gbv x.b)) (fun _ _ _ _ _ => sndts_nil) (fun _ _ _ _ _ => gv) (fun _ _ _ _ _ => gv)) (sndss_cons (gset x (gcell snda_nil)) (sndss_cons (gfor x pa (grng2 x (ga1 gI (ga1 (snd_bin (or_add _) gv gI) snda_nil))) (ggv x) (sndss_cons (gset x (gix x gv (gix x gv gv))) (sndss_cons (snds_if (gtcmp (ol_eq x) gv (gix x gv gI)) (sndss_one (gexpr (gbm gv (ga1 (gix x gv gv) snda_nil) (fun _ h => nomatch h) (fun _ h => by cases h; exact bm_append) (fun _ h => nomatch h)))) (sndss_one (snds_if (gtcmp (ol_ne x) (gix x gv (snd_un ur_neg gI)) (gix x gv gv)) (sndss_one (snds_ret gBl)) sndss_nil))) (sndss_one (snds_if (gtcmp (ol_eq x) gv (gix x gv (snd_un ur_neg gI))) (sndss_one (gexpr (gbm0 gv (fun _ h => nomatch h) (fun _ h => by cases h; exact bm_pop) (fun _ h => nomatch h)))) sndss_nil))))) (sndss_one (snds_ret gBl)))))
theorem ok_do_cross {w : World} {K : PySem.W.Frag} {mg : Str → Option Value} (base : Heap) (V : EV w K mg) : FnG PP w K mg base "do_cross" 1 2 (TT w K) c_do_cross := by
  obtain ⟨fd, F⟩ := V.c.def_ 15
  exact ⟨⟨_, fd, _, (fn_pr F sc_do_cross rfl (fre V) (bo_do_cross base V) rfl rfl rfl).imp fun _ _ _ _ q => sp_pure q, V.glo 43, F.kp, F.bindsN fun _ _ _ _ _ _ us hl => match us, hl with | [_, _], _ => rfl⟩⟩
noncomputable def b_are_blocks : SCode := (sSeq (sIf (tOr (tNot (tVal (eUn (oIsi (nat_lit 3) [(nat_lit 4)]) (eVar (nat_lit 1))))) (tOr (tNot (tVal (eL oAll (aCons (eLc false (iValD (eVar (nat_lit 1))) [(nat_lit 2)] (gVar (nat_lit 2)) tYesC (eCall c_is_block (aCons (eVar (nat_lit 0)) (aCons (eVar (nat_lit 2)) aNil)))) aNil)))) (tNot (tVal (eCall c_are_ascending (aCons (eVar (nat_lit 1)) aNil)))))) (sRet (eC (.bl false))) sPass) (sSeq (sAsg (eL (oSorted false) (aCons (eLc2 false (iValD (eVar (nat_lit 1))) [(nat_lit 2), (nat_lit 4)] (gVar (nat_lit 2)) tYesC (iValD (eVar (nat_lit 2))) [(nat_lit 4)] (gVar (nat_lit 4)) tYesC (eVar (nat_lit 4))) aNil)) (gVar (nat_lit 3))) (sRet (eAnd (eBin oEq (eVar (nat_lit 3)) (eRg2 (eC (.int (.ofNat (nat_lit 1)))) (eBin (oAdd false) (eVar (nat_lit 0)) (eC (.int (.ofNat (nat_lit 1))))) (mkL false))) (eUn oNotB (eCall c_do_cross (aCons (eVar (nat_lit 0)) (aCons (eVar (nat_lit 1)) aNil))))))))
noncomputable def c_are_blocks : FCode := pureF (fnC [none, none, none] b_are_blocks)
theorem sc_are_blocks : FnScope ["size", "value", "block", "points", "point"] ["size", "value"] (defScope S_are_blocks) := ⟨rfl, rfl, rfl, by decide +kernel, rfl, by decide +kernel, by decide +kernel⟩
theorem bo_are_blocks {w : World} {K : PySem.W.Frag} {mg : Str → Option Value} (base : Heap) (V : EV w K mg) : BodyOk PP w K mg base ["size", "value", "block", "points", "point"] "are_blocks" (defScope S_are_blocks) (TT w K) 3 (defBody S_are_blocks) b_are_blocks := fun f cdv A outer s H E x hr pa =>
  (sndss_cons (snds_if (sndt_w (sndw_or (sndt_not (gtv (gisiT (n := "tuple") x (isi_ty_tuple V) gv (hv := bt_tuple)))) (sndw_or (sndt_not (gtv (gB x (cb_all x.hc) (ga1 (glc [("block", 2)] x (sndi_valD gv) (fun _ _ _ _ _ => (gbv x.b)) (fun _ _ _ _ _ => sndts_nil) (fun _ _ _ _ _ => (g_call x.b (hr.mono (by decide)) (ok_is_block base V) (ga1 (gv (hv := .inr (.inl rfl))) (ga1 gv snda_nil))))) snda_nil) (hv := bt_all)))) (sndw_or1 (sndt_not (gtv (g_call x (hr.mono (by decide)) (ok_are_ascending base V) (ga1 gv snda_nil)))))))) (sndss_one (snds_ret gBl)) sndss_nil) (sndss_cons (gset x (gB x (ol_sorted x _) (ga1 (glc2 [("block", 2), ("point", 4)] [(nat_lit 4)] x (sndi_valD gv) (fun _ _ _ _ _ => (gbv x.b)) (fun _ _ _ _ _ => sndts_nil) (fun _ _ _ _ _ => (sndi_valD gv)) (fun _ _ _ _ _ => (gbv x.b)) (fun _ _ _ _ _ => sndts_nil) (fun _ _ _ _ _ => gv)) snda_nil) (hv := bt_sorted))) (sndss_one (snds_ret (snd_and (gcmp (ol_eq x) gv (glrg2 x gI (snd_bin (or_add _) (gv (hv := .inr (.inl rfl))) gI))) (snd_one (snd_not (g_call x (hr.mono (by decide)) (ok_do_cross base V) (ga1 (gv (hv := .inr (.inl rfl))) (ga1 gv snda_nil))))))))))
theorem ok_are_blocks {w : World} {K : PySem.W.Frag} {mg : Str → Option Value} (base : Heap) (V : EV w K mg) : FnG PP w K mg base "are_blocks" 4 2 (TT w K) c_are_blocks := by
  obtain ⟨fd, F⟩ := V.c.def_ 16
  exact ⟨⟨_, fd, _, (fn_pr F sc_are_blocks rfl (fre V) (bo_are_blocks base V) rfl rfl rfl).imp fun _ _ _ _ q => sp_pure q, V.glo 44, F.kp, F.bindsN fun _ _ _ _ _ _ us hl => match us, hl with | [_, _], _ => rfl⟩⟩
noncomputable def b_m_Parting___init__ : SCode := (sSeq (sExpr (eCall c_require_from (aCons (eVar (nat_lit 1)) (aCons (eC (.int (.ofNat (nat_lit 1)))) (aCons (eC (.int (.ofNat (nat_lit 60)))) aNil))))) (sSeq (sIf (tNot (tVal (eCall c_are_blocks (aCons (eVar (nat_lit 1)) (aCons (eVar (nat_lit 2)) aNil))))) sNever sPass) (sSeq (sSlot (((nat_lit 2), (nat_lit 1)) :: []) (eVar (nat_lit 0)) (eVar (nat_lit 1))) (sSlot (((nat_lit 2), (nat_lit 0)) :: []) (eVar (nat_lit 0)) (eVar (nat_lit 2))))))
noncomputable def c_m_Parting___init__ : FCode := (fnC [] b_m_Parting___init__)
theorem sc_m_Parting___init__ : FnScope ["self", "size", "blocks"] ["self", "size", "blocks"] (defScope S_m_Parting___init__) := ⟨rfl, rfl, rfl, by decide +kernel, rfl, by decide +kernel, by decide +kernel⟩
theorem bo_m_Parting___init__ {w : World} {K : PySem.W.Frag} {mg : Str → Option Value} (base : Heap) (V : EV w K mg) : BodyOk PP w K mg base ["self", "size", "blocks"] "Parting.__init__" (defScope S_m_Parting___init__) (TT w K) 4 (defBody S_m_Parting___init__) b_m_Parting___init__ := fun f cdv A outer s H E x hr pa =>
  (sndss_cons (gexpr (g_call x (hr.mono (by decide)) (ok_require_from base V) (ga1 gv (ga1 gI (ga1 (gGI (k_MAX_POINTS V)) snda_nil))))) (sndss_cons (snds_if (sndt_not (gtv (g_call x (hr.mono (by decide)) (ok_are_blocks base V) (ga1 gv (ga1 gv snda_nil))))) (sndss_one snds_never) sndss_nil) (sndss_cons (gslot gv gv (tbc (sl_Parting_own_size V) tbn)) (sndss_one (gslot gv gv (tbc (sl_Parting_own_blocks V) tbn))))))
theorem ok_m_Parting___init__ {w : World} {K : PySem.W.Frag} {mg : Str → Option Value} (base : Heap) (V : EV w K mg) : MakeG PP w K mg base ((TT w K).cls 2) 5 (spOf (TT w K) 3 c_m_Parting___init__) := by
  obtain ⟨fd, F⟩ := V.c.def_ 17
  rw [cl_2]
  exact ⟨⟨_, fd, _, He.mkr_ok (V.c.fact 45 (f := .mkr "Parting")), fn_pr F sc_m_Parting___init__ rfl (fre V) (bo_m_Parting___init__ base V) rfl rfl rfl, F.bindsN fun _ _ _ _ _ _ us hl => match us, hl with | [_, _, _], _ => rfl⟩⟩
noncomputable def b_m_Parting_turned_by : SCode := (sSeq (sExpr (eCall c_require_integer (aCons (eVar (nat_lit 1)) aNil))) (sSeq (sAsg (eL oCell aNil) (gVar (nat_lit 2))) (sSeq (sFor (iValD (eAttr (((nat_lit 2), (nat_lit 0)) :: []) [] (eVar (nat_lit 0)))) (gVar (nat_lit 3)) (sExpr (eBm none (some mAppend) none (eVar (nat_lit 2)) (aCons (eL oTuple (aCons (eL (oSorted false) (aCons (eLc false (iValD (eVar (nat_lit 3))) [(nat_lit 4)] (gVar (nat_lit 4)) tYesC (eCall c_turned_point (aCons (eAttr (((nat_lit 2), (nat_lit 1)) :: []) [] (eVar (nat_lit 0))) (aCons (eVar (nat_lit 4)) (aCons (eVar (nat_lit 1)) aNil))))) aNil)) aNil)) aNil)))) (sRet (eMake (nat_lit 2) [none, none] c_m_Parting___init__ (aCons (eAttr (((nat_lit 2), (nat_lit 1)) :: []) [] (eVar (nat_lit 0))) (aCons (eL oTuple (aCons (eL (oSorted false) (aCons (eVar (nat_lit 2)) aNil)) aNil)) aNil)))))))
noncomputable def c_m_Parting_turned_by : FCode := pureF (fnC [none, none, none] b_m_Parting_turned_by)
theorem sc_m_Parting_turned_by : FnScope ["self", "many", "found", "block", "point"] ["self", "many"] (defScope S_m_Parting_turned_by) := ⟨rfl, rfl, rfl, by decide +kernel, rfl, by decide +kernel, by decide +kernel⟩
theorem bo_m_Parting_turned_by {w : World} {K : PySem.W.Frag} {mg : Str → Option Value} (base : Heap) (V : EV w K mg) : BodyOk PP w K mg base ["self", "many", "found", "block", "point"] "Parting.turned_by" (defScope S_m_Parting_turned_by) (TT w K) 6 (defBody S_m_Parting_turned_by) b_m_Parting_turned_by := fun f cdv A outer s H E x hr pa =>
  (sndss_cons (gexpr (g_call x (hr.mono (by decide)) (ok_require_integer base V) (ga1 (gv (hv := .inr (.inl rfl))) snda_nil))) (sndss_cons (gset x (gcell snda_nil)) (sndss_cons (gfor x pa (sndi_valD (gattr (gv (hv := .inr (.inl rfl))) (tbc (sl_Parting_own_blocks V) tbn) tbn)) (ggv x) (sndss_one (gexpr (gbm gv (ga1 (gTy x cb_tuple (ga1 (gB x (ol_sorted x _) (ga1 (glc [("point", 4)] x (sndi_valD gv) (fun _ _ _ _ _ => (gbv x.b)) (fun _ _ _ _ _ => sndts_nil) (fun _ _ _ _ _ => (g_call x.b (hr.mono (by decide)) (ok_turned_point base V) (ga1 (gattr (gv (hv := .inr (.inl rfl))) (tbc (sl_Parting_own_size V) tbn) tbn) (ga1 gv (ga1 (gv (hv := .inr (.inl rfl))) snda_nil)))))) snda_nil) (hv := bt_sorted)) snda_nil) (hv := bt_tuple)) snda_nil) (fun _ h => nomatch h) (fun _ h => by cases h; exact bm_append) (fun _ h => nomatch h))))) (sndss_one (snds_ret (gmk 2 1 x ((ok_m_Parting___init__ base V).at (hr.mono (by decide))) (gc_Parting V) (ga1 (gattr (gv (hv := .inr (.inl rfl))) (tbc (sl_Parting_own_size V) tbn) tbn) (ga1 (gTy x cb_tuple (ga1 (gB x (ol_sorted x _) (ga1 gv snda_nil) (hv := bt_sorted)) snda_nil) (hv := bt_tuple)) snda_nil))))))))
theorem ok_m_Parting_turned_by {w : World} {K : PySem.W.Frag} {mg : Str → Option Value} (base : Heap) (V : EV w K mg) : MethG PP w K mg base ((TT w K).cls 2) "turned_by" 7 (spOf (TT w K) 2 c_m_Parting_turned_by) := by
  obtain ⟨fd, F⟩ := V.c.def_ 18
  rw [cl_2]
  exact ⟨scls_ok (V.c.fy_ 7 (f := .scls "Parting")), ⟨_, He.meth_ok (V.c.fact 47 (f := .meth "Parting" "turned_by")), fnok_r ((fn_pr F sc_m_Parting_turned_by rfl (fre V) (bo_m_Parting_turned_by base V) rfl rfl rfl).imp fun _ _ _ _ q => sp_pure q) (F.bindsN fun _ _ _ _ _ _ us hl => match us, hl with | [_, _], _ => rfl)⟩⟩
noncomputable def b_m_Parting_blocks : SCode := (sRet (eAttr (((nat_lit 2), (nat_lit 0)) :: []) [] (eVar (nat_lit 0))))
noncomputable def c_m_Parting_blocks : FCode := pureF (fnC [] b_m_Parting_blocks)
theorem sc_m_Parting_blocks : FnScope ["self"] ["self"] (defScope S_m_Parting_blocks) := ⟨rfl, rfl, rfl, by decide +kernel, rfl, by decide +kernel, by decide +kernel⟩
theorem bo_m_Parting_blocks {w : World} {K : PySem.W.Frag} {mg : Str → Option Value} (base : Heap) (V : EV w K mg) : BodyOk PP w K mg base ["self"] "Parting.blocks" (defScope S_m_Parting_blocks) (TT w K) 0 (defBody S_m_Parting_blocks) b_m_Parting_blocks := fun f cdv A outer s H E x hr pa =>
  (sndss_one (snds_ret (gattr gv (tbc (sl_Parting_own_blocks V) tbn) tbn)))
theorem ok_m_Parting_blocks {w : World} {K : PySem.W.Frag} {mg : Str → Option Value} (base : Heap) (V : EV w K mg) : PropG PP w K mg base ((TT w K).cls 2) "blocks" 1 (spOf (TT w K) 1 c_m_Parting_blocks) := by
  obtain ⟨fd, F⟩ := V.c.def_ 19
  rw [cl_2]
  obtain ⟨h1, h2, h3, h4⟩ := prop_ok (V.c.fy_ 11 (f := .prop "Parting" "blocks"))
  exact ⟨scls_ok (V.c.fy_ 7 (f := .scls "Parting")), ⟨_, _, h1, h2, h3, h4, fnok_r ((fn_pr F sc_m_Parting_blocks rfl (fre V) (bo_m_Parting_blocks base V) rfl rfl rfl).imp fun _ _ _ _ q => sp_pure q) (F.bindsN fun _ _ _ _ _ _ us hl => match us, hl with | [_], _ => rfl)⟩⟩
noncomputable def b_require_way : SCode := (sIf (tNot (tVal (eUn (oIsi (nat_lit 3) [(nat_lit 11)]) (eVar (nat_lit 0))))) sNever sPass)
noncomputable def c_require_way : FCode := pureF (fnC [] b_require_way)
theorem sc_require_way : FnScope ["value"] ["value"] (defScope S_require_way) := ⟨rfl, rfl, rfl, by decide +kernel, rfl, by decide +kernel, by decide +kernel⟩
theorem bo_require_way {w : World} {K : PySem.W.Frag} {mg : Str → Option Value} (base : Heap) (V : EV w K mg) : BodyOk PP w K mg base ["value"] "require_way" (defScope S_require_way) (TT w K) 0 (defBody S_require_way) b_require_way := fun f cdv A outer s H E x hr pa =>
  (sndss_one (snds_if (sndt_not (gtv (gisiC x (isi_cl_Way V) gv (g_Way V)))) (sndss_one snds_never) sndss_nil))
theorem ok_require_way {w : World} {K : PySem.W.Frag} {mg : Str → Option Value} (base : Heap) (V : EV w K mg) : FnG PP w K mg base "require_way" 1 1 (TT w K) c_require_way := by
  obtain ⟨fd, F⟩ := V.c.def_ 20
  exact ⟨⟨_, fd, _, (fn_pr F sc_require_way rfl (fre V) (bo_require_way base V) rfl rfl rfl).imp fun _ _ _ _ q => sp_pure q, V.glo 49, F.kp, F.bindsN fun _ _ _ _ _ _ us hl => match us, hl with | [_], _ => rfl⟩⟩
noncomputable def b_require_coprime : SCode := (sIf (tVal (eBin oGtX (eAttr (((nat_lit 0), (nat_lit 0)) :: []) [] (eVar (nat_lit 0))) (eC (.int (.ofNat (nat_lit 1)))))) sNever sPass)
noncomputable def c_require_coprime : FCode := pureF (fnC [] b_require_coprime)
theorem sc_require_coprime : FnScope ["slope"] ["slope"] (defScope S_require_coprime) := ⟨rfl, rfl, rfl, by decide +kernel, rfl, by decide +kernel, by decide +kernel⟩
theorem bo_require_coprime {w : World} {K : PySem.W.Frag} {mg : Str → Option Value} (base : Heap) (V : EV w K mg) : BodyOk PP w K mg base ["slope"] "require_coprime" (defScope S_require_coprime) (TT w K) 0 (defBody S_require_coprime) b_require_coprime := fun f cdv A outer s H E x hr pa =>
  (sndss_one (snds_if (gtcmp (ol_gt x) (gattr gv (tbc (sl_Slope_own_common V) tbn) tbn) gI) (sndss_one snds_never) sndss_nil))
theorem ok_require_coprime {w : World} {K : PySem.W.Frag} {mg : Str → Option Value} (base : Heap) (V : EV w K mg) : FnG PP w K mg base "require_coprime" 1 1 (TT w K) c_require_coprime := by
  obtain ⟨fd, F⟩ := V.c.def_ 21
  exact ⟨⟨_, fd, _, (fn_pr F sc_require_coprime rfl (fre V) (bo_require_coprime base V) rfl rfl rfl).imp fun _ _ _ _ q => sp_pure q, V.glo 50, F.kp, F.bindsN fun _ _ _ _ _ _ us hl => match us, hl with | [_], _ => rfl⟩⟩
noncomputable def b_m_Slope_rises : SCode := (sRet (eAttr (((nat_lit 0), (nat_lit 1)) :: []) [] (eVar (nat_lit 0))))
noncomputable def c_m_Slope_rises : FCode := pureF (fnC [] b_m_Slope_rises)
theorem sc_m_Slope_rises : FnScope ["self"] ["self"] (defScope S_m_Slope_rises) := ⟨rfl, rfl, rfl, by decide +kernel, rfl, by decide +kernel, by decide +kernel⟩
theorem bo_m_Slope_rises {w : World} {K : PySem.W.Frag} {mg : Str → Option Value} (base : Heap) (V : EV w K mg) : BodyOk PP w K mg base ["self"] "Slope.rises" (defScope S_m_Slope_rises) (TT w K) 0 (defBody S_m_Slope_rises) b_m_Slope_rises := fun f cdv A outer s H E x hr pa =>
  (sndss_one (snds_ret (gattr gv (tbc (sl_Slope_own_rises V) tbn) tbn)))
theorem ok_m_Slope_rises {w : World} {K : PySem.W.Frag} {mg : Str → Option Value} (base : Heap) (V : EV w K mg) : PropG PP w K mg base ((TT w K).cls 0) "rises" 1 (spOf (TT w K) 1 c_m_Slope_rises) := by
  obtain ⟨fd, F⟩ := V.c.def_ 22
  rw [cl_0]
  obtain ⟨h1, h2, h3, h4⟩ := prop_ok (V.c.fy_ 13 (f := .prop "Slope" "rises"))
  exact ⟨scls_ok (V.c.fy_ 2 (f := .scls "Slope")), ⟨_, _, h1, h2, h3, h4, fnok_r ((fn_pr F sc_m_Slope_rises rfl (fre V) (bo_m_Slope_rises base V) rfl rfl rfl).imp fun _ _ _ _ q => sp_pure q) (F.bindsN fun _ _ _ _ _ _ us hl => match us, hl with | [_], _ => rfl)⟩⟩
noncomputable def b_m_Slope_steps : SCode := (sRet (eAttr (((nat_lit 0), (nat_lit 2)) :: []) [] (eVar (nat_lit 0))))
noncomputable def c_m_Slope_steps : FCode := pureF (fnC [] b_m_Slope_steps)
theorem sc_m_Slope_steps : FnScope ["self"] ["self"] (defScope S_m_Slope_steps) := ⟨rfl, rfl, rfl, by decide +kernel, rfl, by decide +kernel, by decide +kernel⟩
theorem bo_m_Slope_steps {w : World} {K : PySem.W.Frag} {mg : Str → Option Value} (base : Heap) (V : EV w K mg) : BodyOk PP w K mg base ["self"] "Slope.steps" (defScope S_m_Slope_steps) (TT w K) 0 (defBody S_m_Slope_steps) b_m_Slope_steps := fun f cdv A outer s H E x hr pa =>
  (sndss_one (snds_ret (gattr gv (tbc (sl_Slope_own_steps V) tbn) tbn)))
theorem ok_m_Slope_steps {w : World} {K : PySem.W.Frag} {mg : Str → Option Value} (base : Heap) (V : EV w K mg) : PropG PP w K mg base ((TT w K).cls 0) "steps" 1 (spOf (TT w K) 1 c_m_Slope_steps) := by
  obtain ⟨fd, F⟩ := V.c.def_ 23
  rw [cl_0]
  obtain ⟨h1, h2, h3, h4⟩ := prop_ok (V.c.fy_ 14 (f := .prop "Slope" "steps"))
  exact ⟨scls_ok (V.c.fy_ 2 (f := .scls "Slope")), ⟨_, _, h1, h2, h3, h4, fnok_r ((fn_pr F sc_m_Slope_steps rfl (fre V) (bo_m_Slope_steps base V) rfl rfl rfl).imp fun _ _ _ _ q => sp_pure q) (F.bindsN fun _ _ _ _ _ _ us hl => match us, hl with | [_], _ => rfl)⟩⟩
noncomputable def b_require_flat : SCode := (sSeq (sExpr (eCall c_require_coprime (aCons (eVar (nat_lit 0)) aNil))) (sIf (tVal (eBin oGeX (eAttr [] (((nat_lit 0), c_m_Slope_rises) :: []) (eVar (nat_lit 0))) (eAttr [] (((nat_lit 0), c_m_Slope_steps) :: []) (eVar (nat_lit 0))))) sNever sPass))
noncomputable def c_require_flat : FCode := pureF (fnC [] b_require_flat)
theorem sc_require_flat : FnScope ["slope"] ["slope"] (defScope S_require_flat) := ⟨rfl, rfl, rfl, by decide +kernel, rfl, by decide +kernel, by decide +kernel⟩
theorem bo_require_flat {w : World} {K : PySem.W.Frag} {mg : Str → Option Value} (base : Heap) (V : EV w K mg) : BodyOk PP w K mg base ["slope"] "require_flat" (defScope S_require_flat) (TT w K) 2 (defBody S_require_flat) b_require_flat := fun f cdv A outer s H E x hr pa =>
  (sndss_cons (gexpr (g_call x (hr.mono (by decide)) (ok_require_coprime base V) (ga1 gv snda_nil))) (sndss_one (snds_if (gtcmp (ol_ge x) (gattr gv tbn (tbc ((ok_m_Slope_rises base V).at (hr.mono (by decide))) tbn)) (gattr gv tbn (tbc ((ok_m_Slope_steps base V).at (hr.mono (by decide))) tbn))) (sndss_one snds_never) sndss_nil)))
theorem ok_require_flat {w : World} {K : PySem.W.Frag} {mg : Str → Option Value} (base : Heap) (V : EV w K mg) : FnG PP w K mg base "require_flat" 3 1 (TT w K) c_require_flat := by
  obtain ⟨fd, F⟩ := V.c.def_ 24
  exact ⟨⟨_, fd, _, (fn_pr F sc_require_flat rfl (fre V) (bo_require_flat base V) rfl rfl rfl).imp fun _ _ _ _ q => sp_pure q, V.glo 51, F.kp, F.bindsN fun _ _ _ _ _ _ us hl => match us, hl with | [_], _ => rfl⟩⟩
noncomputable def b_require_slope : SCode := (sIf (tNot (tVal (eUn (oIsi (nat_lit 3) [(nat_lit 10)]) (eVar (nat_lit 0))))) sNever sPass)
noncomputable def c_require_slope : FCode := pureF (fnC [] b_require_slope)
theorem sc_require_slope : FnScope ["value"] ["value"] (defScope S_require_slope) := ⟨rfl, rfl, rfl, by decide +kernel, rfl, by decide +kernel, by decide +kernel⟩
theorem bo_require_slope {w : World} {K : PySem.W.Frag} {mg : Str → Option Value} (base : Heap) (V : EV w K mg) : BodyOk PP w K mg base ["value"] "require_slope" (defScope S_require_slope) (TT w K) 0 (defBody S_require_slope) b_require_slope := fun f cdv A outer s H E x hr pa =>
  (sndss_one (snds_if (sndt_not (gtv (gisiC x (isi_cl_Slope V) gv (g_Slope V)))) (sndss_one snds_never) sndss_nil))
theorem ok_require_slope {w : World} {K : PySem.W.Frag} {mg : Str → Option Value} (base : Heap) (V : EV w K mg) : FnG PP w K mg base "require_slope" 1 1 (TT w K) c_require_slope := by
  obtain ⟨fd, F⟩ := V.c.def_ 25
  exact ⟨⟨_, fd, _, (fn_pr F sc_require_slope rfl (fre V) (bo_require_slope base V) rfl rfl rfl).imp fun _ _ _ _ q => sp_pure q, V.glo 52, F.kp, F.bindsN fun _ _ _ _ _ _ us hl => match us, hl with | [_], _ => rfl⟩⟩
noncomputable def b_count_of_ways : SCode := (sSeq (sAsg (eAttr (((nat_lit 0), (nat_lit 0)) :: []) [] (eVar (nat_lit 0))) (gVar (nat_lit 1))) (sSeq (sUnp (aCons (eBin oDiv (eAttr (((nat_lit 0), (nat_lit 1)) :: []) [] (eVar (nat_lit 0))) (eVar (nat_lit 1))) (aCons (eBin oDiv (eBin (oAdd false) (eAttr (((nat_lit 0), (nat_lit 1)) :: []) [] (eVar (nat_lit 0))) (eAttr (((nat_lit 0), (nat_lit 2)) :: []) [] (eVar (nat_lit 0)))) (eVar (nat_lit 1))) aNil)) (gConss (gVar (nat_lit 2)) (gConss (gVar (nat_lit 3)) gNils))) (sSeq (sAsg (eL oCell (aCons (eC (.int (.ofNat (nat_lit 1)))) aNil)) (gVar (nat_lit 4))) (sSeq (sFor (iRng2 (aCons (eC (.int (.ofNat (nat_lit 1)))) (aCons (eBin (oAdd false) (eVar (nat_lit 1)) (eC (.int (.ofNat (nat_lit 1))))) aNil))) (gVar (nat_lit 5)) (sSeq (sAsg (eLc false (iRng2 (aCons (eC (.int (.ofNat (nat_lit 1)))) (aCons (eBin (oAdd false) (eVar (nat_lit 5)) (eC (.int (.ofNat (nat_lit 1))))) aNil))) [(nat_lit 7)] (gVar (nat_lit 7)) tYesC (eBin (oMul false) (eBin oIxD (eVar (nat_lit 4)) (eBin oSub (eVar (nat_lit 5)) (eVar (nat_lit 7)))) (eBin oDiv (eL oComb (aCons (eBin (oMul false) (eVar (nat_lit 7)) (eVar (nat_lit 3))) (aCons (eBin (oMul false) (eVar (nat_lit 7)) (eVar (nat_lit 2))) aNil))) (eVar (nat_lit 3))))) (gVar (nat_lit 6))) (sExpr (eBm none (some mAppend) none (eVar (nat_lit 4)) (aCons (eBin oDiv (eL oSum (aCons (eVar (nat_lit 6)) aNil)) (eVar (nat_lit 5))) aNil))))) (sRet (eBin oIxD (eVar (nat_lit 4)) (eVar (nat_lit 1))))))))
noncomputable def c_count_of_ways : FCode := pureF (fnC [none, none, none, none, none, none, none] b_count_of_ways)
theorem sc_count_of_ways : FnScope ["slope", "common", "rises", "both", "found", "many", "parts", "part"] ["slope"] (defScope S_count_of_ways) := ⟨rfl, rfl, rfl, by decide +kernel, rfl, by decide +kernel, by decide +kernel⟩
theorem bo_count_of_ways {w : World} {K : PySem.W.Frag} {mg : Str → Option Value} (base : Heap) (V : EV w K mg) : BodyOk PP w K mg base ["slope", "common", "rises", "both", "found", "many", "parts", "part"] "count_of_ways" (defScope S_count_of_ways) (TT w K) 0 (defBody S_count_of_ways) b_count_of_ways := fun f cdv A outer s H E x hr pa =>
  (sndss_cons (gset x (gattr gv (tbc (sl_Slope_own_common V) tbn) tbn)) (sndss_cons (gunp x (ga1 (snd_bin or_div (gattr gv (tbc (sl_Slope_own_rises V) tbn) tbn) gv) (ga1 (snd_bin or_div (snd_bin (or_add _) (gattr gv (tbc (sl_Slope_own_rises V) tbn) tbn) (gattr gv (tbc (sl_Slope_own_steps V) tbn) tbn)) gv) snda_nil)) (ggs (ggv x (hx := .inr rfl) (hf := .inl rfl)) (ggs (ggv x (hx := .inr rfl) (hf := .inl rfl)) sndgs_nil))) (sndss_cons (gset x (gcell (ga1 gI snda_nil)) (hx := .inr rfl) (hf := .inl rfl)) (sndss_cons (gfor x pa (grng2 x (ga1 gI (ga1 (snd_bin (or_add _) gv gI) snda_nil))) (ggv x (hx := .inr rfl) (hf := .inl rfl)) (sndss_cons (gsetlc [("part", 7)] x (grng2 x (ga1 gI (ga1 (snd_bin (or_add _) (gv (hv := .inr (.inl rfl))) gI) snda_nil))) (fun _ _ _ _ _ => (gbv x.b)) (fun _ _ _ _ _ => sndts_nil) (fun _ _ _ _ _ => (snd_bin (or_mul _) (gix x.b (gv (hv := .inr (.inl rfl))) (snd_bin or_sub (gv (hv := .inr (.inl rfl))) gv)) (snd_bin or_div (gM cb_comb (bi_comb V) (ga1 (snd_bin (or_mul _) gv (gv (hv := .inr (.inl rfl)))) (ga1 (snd_bin (or_mul _) gv (gv (hv := .inr (.inl rfl)))) snda_nil))) (gv (hv := .inr (.inl rfl))))))) (sndss_one (gexpr (gbm (gv (hv := .inr (.inl rfl))) (ga1 (snd_bin or_div (gB x (cb_sum x.hc) (ga1 gv snda_nil) (hv := bt_sum)) (gv (hv := .inr (.inl rfl)))) snda_nil) (fun _ h => nomatch h) (fun _ h => by cases h; exact bm_append) (fun _ h => nomatch h)))))) (sndss_one (snds_ret (gix x (gv (hv := .inr (.inl rfl))) gv)))))))
theorem ok_count_of_ways {w : World} {K : PySem.W.Frag} {mg : Str → Option Value} (base : Heap) (V : EV w K mg) : FnG PP w K mg base "count_of_ways" 1 1 (TT w K) c_count_of_ways := by
  obtain ⟨fd, F⟩ := V.c.def_ 26
  exact ⟨⟨_, fd, _, (fn_pr F sc_count_of_ways rfl (fre V) (bo_count_of_ways base V) rfl rfl rfl).imp fun _ _ _ _ q => sp_pure q, V.glo 53, F.kp, F.bindsN fun _ _ _ _ _ _ us hl => match us, hl with | [_], _ => rfl⟩⟩
noncomputable def b_way_count : SCode := (sSeq (sExpr (eCall c_require_slope (aCons (eVar (nat_lit 0)) aNil))) (sRet (eCall c_count_of_ways (aCons (eVar (nat_lit 0)) aNil))))
noncomputable def c_way_count : FCode := pureF (fnC [] b_way_count)
theorem sc_way_count : FnScope ["slope"] ["slope"] (defScope S_way_count) := ⟨rfl, rfl, rfl, by decide +kernel, rfl, by decide +kernel, by decide +kernel⟩
theorem bo_way_count {w : World} {K : PySem.W.Frag} {mg : Str → Option Value} (base : Heap) (V : EV w K mg) : BodyOk PP w K mg base ["slope"] "way_count" (defScope S_way_count) (TT w K) 1 (defBody S_way_count) b_way_count := fun f cdv A outer s H E x hr pa =>
  (sndss_cons (gexpr (g_call x (hr.mono (by decide)) (ok_require_slope base V) (ga1 gv snda_nil))) (sndss_one (snds_ret (g_call x (hr.mono (by decide)) (ok_count_of_ways base V) (ga1 gv snda_nil)))))
theorem ok_way_count {w : World} {K : PySem.W.Frag} {mg : Str → Option Value} (base : Heap) (V : EV w K mg) : FnG PP w K mg base "way_count" 2 1 (TT w K) c_way_count := by
  obtain ⟨fd, F⟩ := V.c.def_ 27
  exact ⟨⟨_, fd, _, (fn_pr F sc_way_count rfl (fre V) (bo_way_count base V) rfl rfl rfl).imp fun _ _ _ _ q => sp_pure q, V.glo 54, F.kp, F.bindsN fun _ _ _ _ _ _ us hl => match us, hl with | [_], _ => rfl⟩⟩
noncomputable def b_require_listed : SCode := (sSeq (sExpr (eCall c_require_flat (aCons (eVar (nat_lit 0)) aNil))) (sIf (tVal (eBin oGtX (eCall c_way_count (aCons (eVar (nat_lit 0)) aNil)) (eC (.int (.ofNat (nat_lit 5000)))))) sNever sPass))
noncomputable def c_require_listed : FCode := pureF (fnC [] b_require_listed)
theorem sc_require_listed : FnScope ["slope"] ["slope"] (defScope S_require_listed) := ⟨rfl, rfl, rfl, by decide +kernel, rfl, by decide +kernel, by decide +kernel⟩
theorem bo_require_listed {w : World} {K : PySem.W.Frag} {mg : Str → Option Value} (base : Heap) (V : EV w K mg) : BodyOk PP w K mg base ["slope"] "require_listed" (defScope S_require_listed) (TT w K) 3 (defBody S_require_listed) b_require_listed := fun f cdv A outer s H E x hr pa =>
  (sndss_cons (gexpr (g_call x (hr.mono (by decide)) (ok_require_flat base V) (ga1 gv snda_nil))) (sndss_one (snds_if (gtcmp (ol_gt x) (g_call x (hr.mono (by decide)) (ok_way_count base V) (ga1 gv snda_nil)) (gGI (k_MAX_PARTED V))) (sndss_one snds_never) sndss_nil)))
theorem ok_require_listed {w : World} {K : PySem.W.Frag} {mg : Str → Option Value} (base : Heap) (V : EV w K mg) : FnG PP w K mg base "require_listed" 4 1 (TT w K) c_require_listed := by
  obtain ⟨fd, F⟩ := V.c.def_ 28
  exact ⟨⟨_, fd, _, (fn_pr F sc_require_listed rfl (fre V) (bo_require_listed base V) rfl rfl rfl).imp fun _ _ _ _ q => sp_pure q, V.glo 56, F.kp, F.bindsN fun _ _ _ _ _ _ us hl => match us, hl with | [_], _ => rfl⟩⟩
noncomputable def b_m_Way_slope : SCode := (sRet (eAttr (((nat_lit 1), (nat_lit 1)) :: []) [] (eVar (nat_lit 0))))
noncomputable def c_m_Way_slope : FCode := pureF (fnC [] b_m_Way_slope)
theorem sc_m_Way_slope : FnScope ["self"] ["self"] (defScope S_m_Way_slope) := ⟨rfl, rfl, rfl, by decide +kernel, rfl, by decide +kernel, by decide +kernel⟩
theorem bo_m_Way_slope {w : World} {K : PySem.W.Frag} {mg : Str → Option Value} (base : Heap) (V : EV w K mg) : BodyOk PP w K mg base ["self"] "Way.slope" (defScope S_m_Way_slope) (TT w K) 0 (defBody S_m_Way_slope) b_m_Way_slope := fun f cdv A outer s H E x hr pa =>
  (sndss_one (snds_ret (gattr gv (tbc (sl_Way_own_slope V) tbn) tbn)))
theorem ok_m_Way_slope {w : World} {K : PySem.W.Frag} {mg : Str → Option Value} (base : Heap) (V : EV w K mg) : PropG PP w K mg base ((TT w K).cls 1) "slope" 1 (spOf (TT w K) 1 c_m_Way_slope) := by
  obtain ⟨fd, F⟩ := V.c.def_ 29
  rw [cl_1]
  obtain ⟨h1, h2, h3, h4⟩ := prop_ok (V.c.fy_ 19 (f := .prop "Way" "slope"))
  exact ⟨scls_ok (V.c.fy_ 17 (f := .scls "Way")), ⟨_, _, h1, h2, h3, h4, fnok_r ((fn_pr F sc_m_Way_slope rfl (fre V) (bo_m_Way_slope base V) rfl rfl rfl).imp fun _ _ _ _ q => sp_pure q) (F.bindsN fun _ _ _ _ _ _ us hl => match us, hl with | [_], _ => rfl)⟩⟩
noncomputable def b_lengths_with : SCode := (sSeq (sAsg (eL oLst (aCons (eL oTup aNil) aNil)) (gVar (nat_lit 2))) (sSeq (sFor (iRng1 (aCons (eBin oSub (eVar (nat_lit 1)) (eC (.int (.ofNat (nat_lit 1))))) aNil)) (gVar (nat_lit 3)) (sSeq (sAsg (eBin (oAdd false) (eBin (oAdd false) (eBin oSub (eVar (nat_lit 0)) (eVar (nat_lit 1))) (eVar (nat_lit 3))) (eC (.int (.ofNat (nat_lit 2))))) (gVar (nat_lit 4))) (sAsg (eLc2 false (iValD (eVar (nat_lit 2))) [(nat_lit 5), (nat_lit 6)] (gVar (nat_lit 5)) tYesC (iRng2 (aCons (eC (.int (.ofNat (nat_lit 1)))) (aCons (eBin oSub (eVar (nat_lit 4)) (eL oSum (aCons (eVar (nat_lit 5)) aNil))) aNil))) [(nat_lit 6)] (gVar (nat_lit 6)) tYesC (eL oTupV (aStar (eVar (nat_lit 5)) (aCons (eVar (nat_lit 6)) aNil)))) (gVar (nat_lit 2))))) (sRet (eLc false (iValD (eVar (nat_lit 2))) [(nat_lit 5)] (gVar (nat_lit 5)) tYesC (eL oTupV (aStar (eVar (nat_lit 5)) (aCons (eBin oSub (eVar (nat_lit 0)) (eL oSum (aCons (eVar (nat_lit 5)) aNil))) aNil)))))))
noncomputable def c_lengths_with : FCode := pureF (fnC [none, none, none, none, none] b_lengths_with)
theorem sc_lengths_with : FnScope ["total", "many", "found", "place", "room", "row", "number"] ["total", "many"] (defScope S_lengths_with) := ⟨rfl, rfl, rfl, by decide +kernel, rfl, by decide +kernel, by decide +kernel⟩
theorem bo_lengths_with {w : World} {K : PySem.W.Frag} {mg : Str → Option Value} (base : Heap) (V : EV w K mg) : BodyOk PP w K mg base ["total", "many", "found", "place", "room", "row", "number"] "lengths_with" (defScope S_lengths_with) (TT w K) 0 (defBody S_lengths_with) b_lengths_with := fun f cdv A outer s H E x hr pa =>
  (sndss_cons (gset x (glst (ga1 (gtup snda_nil) snda_nil))) (sndss_cons (gfor x pa (grng1 x (ga1 (snd_bin or_sub gv gI) snda_nil)) (ggv x) (sndss_cons (gset x (snd_bin (or_add _) (snd_bin (or_add _) (snd_bin or_sub (gv (hv := .inr (.inl rfl))) gv) gv) gI) (hx := .inr rfl) (hf := .inl rfl)) (sndss_one (gsetlc2 [("row", 5), ("number", 6)] [(nat_lit 6)] x (sndi_valD gv) (fun _ _ _ _ _ => (gbv x.b)) (fun _ _ _ _ _ => sndts_nil) (fun _ _ _ _ _ => (grng2 x.b (ga1 gI (ga1 (snd_bin or_sub (gv (hv := .inr (.inl rfl))) (gB x.b (cb_sum x.b.hc) (ga1 gv snda_nil) (hv := bt_sum))) snda_nil)))) (fun _ _ _ _ _ => (gbv x.b)) (fun _ _ _ _ _ => sndts_nil) (fun _ _ _ _ _ => (snd_tupV (gws gv (gw1 gv sndav_nil)))))))) (sndss_one (snds_ret (glc [("row", 5)] x (sndi_valD gv) (fun _ _ _ _ _ => (gbv x.b)) (fun _ _ _ _ _ => sndts_nil) (fun _ _ _ _ _ => (snd_tupV (gws gv (gw1 (snd_bin or_sub (gv (hv := .inr (.inl rfl))) (gB x.b (cb_sum x.b.hc) (ga1 gv snda_nil) (hv := bt_sum))) sndav_nil)))))))))
theorem ok_lengths_with {w : World} {K : PySem.W.Frag} {mg : Str → Option Value} (base : Heap) (V : EV w K mg) : FnG PP w K mg base "lengths_with" 1 2 (TT w K) c_lengths_with := by
  obtain ⟨fd, F⟩ := V.c.def_ 30
  exact ⟨⟨_, fd, _, (fn_pr F sc_lengths_with rfl (fre V) (bo_lengths_with base V) rfl rfl rfl).imp fun _ _ _ _ q => sp_pure q, V.glo 57, F.kp, F.bindsN fun _ _ _ _ _ _ us hl => match us, hl with | [_, _], _ => rfl⟩⟩
noncomputable def b_text_of_runs : SCode := (sSeq (sUnp (aCons (eC (.str [])) (aCons (eC (.int (.ofNat (nat_lit 0)))) aNil)) (gConss (gVar (nat_lit 3)) (gConss (gVar (nat_lit 4)) gNils))) (sSeq (sFor (iZip (eVar (nat_lit 1)) (eVar (nat_lit 2))) (gTups (gConss (gVar (nat_lit 5)) (gConss (gVar (nat_lit 6)) gNils))) (sSeq (sAsg (eBin (oAdd false) (eBin (oAdd false) (eVar (nat_lit 3)) (eBin (oMul false) (eC (.str [nat_lit 115])) (eBin oSub (eVar (nat_lit 5)) (eVar (nat_lit 4))))) (eBin (oMul false) (eC (.str [nat_lit 114])) (eVar (nat_lit 6)))) (gVar (nat_lit 3))) (sAsg (eVar (nat_lit 5)) (gVar (nat_lit 4))))) (sRet (eBin (oAdd false) (eVar (nat_lit 3)) (eBin (oMul false) (eC (.str [nat_lit 115])) (eBin oSub (eVar (nat_lit 0)) (eVar (nat_lit 4))))))))
noncomputable def c_text_of_runs : FCode := pureF (fnC [none, none, none, none] b_text_of_runs)
theorem sc_text_of_runs : FnScope ["steps", "feet", "lengths", "found", "done", "foot", "length"] ["steps", "feet", "lengths"] (defScope S_text_of_runs) := ⟨rfl, rfl, rfl, by decide +kernel, rfl, by decide +kernel, by decide +kernel⟩
theorem bo_text_of_runs {w : World} {K : PySem.W.Frag} {mg : Str → Option Value} (base : Heap) (V : EV w K mg) : BodyOk PP w K mg base ["steps", "feet", "lengths", "found", "done", "foot", "length"] "text_of_runs" (defScope S_text_of_runs) (TT w K) 0 (defBody S_text_of_runs) b_text_of_runs := fun f cdv A outer s H E x hr pa =>
  (sndss_cons (gunp x (ga1 gS (ga1 gI snda_nil)) (ggs (ggv x) (ggs (ggv x) sndgs_nil))) (sndss_cons (gfor x pa (gzip x gv gv) (ggt x (ggs (ggv x) (ggs (ggv x) sndgs_nil)) (glen_cons (gthru_var _) (glen_cons (gthru_var _) glen_nil))) (sndss_cons (gset x (snd_bin (or_add _) (snd_bin (or_add _) gv (snd_bin (or_mul _) gS (snd_bin or_sub gv gv))) (snd_bin (or_mul _) gS gv))) (sndss_one (gset x gv)))) (sndss_one (snds_ret (snd_bin (or_add _) gv (snd_bin (or_mul _) gS (snd_bin or_sub gv gv)))))))
theorem ok_text_of_runs {w : World} {K : PySem.W.Frag} {mg : Str → Option Value} (base : Heap) (V : EV w K mg) : FnG PP w K mg base "text_of_runs" 1 3 (TT w K) c_text_of_runs := by
  obtain ⟨fd, F⟩ := V.c.def_ 31
  exact ⟨⟨_, fd, _, (fn_pr F sc_text_of_runs rfl (fre V) (bo_text_of_runs base V) rfl rfl rfl).imp fun _ _ _ _ q => sp_pure q, V.glo 58, F.kp, F.bindsN fun _ _ _ _ _ _ us hl => match us, hl with | [_, _, _], _ => rfl⟩⟩
noncomputable def b_levels_of : SCode := (sSeq (sAsg (eL oCell aNil) (gVar (nat_lit 2))) (sSeq (sAsg (eC (.int (.ofNat (nat_lit 0)))) (gVar (nat_lit 3))) (sSeq (sFor (iValD (eVar (nat_lit 1))) (gVar (nat_lit 4)) (sSeq (sExpr (eBm none (some mAppend) none (eVar (nat_lit 2)) (aCons (eVar (nat_lit 3)) aNil))) (sAug (nat_lit 3) oIAdd (eIf (tVal (eBin oEq (eVar (nat_lit 4)) (eC (.str [nat_lit 114])))) (eAttr (((nat_lit 0), (nat_lit 2)) :: []) [] (eVar (nat_lit 0))) (eUn oNeg (eAttr (((nat_lit 0), (nat_lit 1)) :: []) [] (eVar (nat_lit 0)))))))) (sRet (eFrz (eVar (nat_lit 2)))))))
noncomputable def c_levels_of : FCode := pureF (fnC [none, none, none] b_levels_of)
theorem sc_levels_of : FnScope ["slope", "text", "found", "level", "letter"] ["slope", "text"] (defScope S_levels_of) := ⟨rfl, rfl, rfl, by decide +kernel, rfl, by decide +kernel, by decide +kernel⟩
theorem bo_levels_of {w : World} {K : PySem.W.Frag} {mg : Str → Option Value} (base : Heap) (V : EV w K mg) : BodyOk PP w K mg base ["slope", "text", "found", "level", "letter"] "levels_of" (defScope S_levels_of) (TT w K) 0 (defBody S_levels_of) b_levels_of := fun f cdv A outer s H E x hr pa =>
  (sndss_cons (gset x (gcell snda_nil)) (sndss_cons (gset x gI) (sndss_cons (gfor x pa (sndi_valD gv) (ggv x) (sndss_cons (gexpr (gbm gv (ga1 gv snda_nil) (fun _ h => nomatch h) (fun _ h => by cases h; exact bm_append) (fun _ h => nomatch h))) (sndss_one (gaug x or_iadd (snd_if (gtcmp (ol_eq x) gv (gGS (k_RISE V))) (gattr gv (tbc (sl_Slope_own_steps V) tbn) tbn) (snd_un ur_neg (gattr gv (tbc (sl_Slope_own_rises V) tbn) tbn))))))) (sndss_one (snds_ret (snd_frz gv))))))
theorem ok_levels_of {w : World} {K : PySem.W.Frag} {mg : Str → Option Value} (base : Heap) (V : EV w K mg) : FnG PP w K mg base "levels_of" 1 2 (TT w K) c_levels_of := by
  obtain ⟨fd, F⟩ := V.c.def_ 32
  exact ⟨⟨_, fd, _, (fn_pr F sc_levels_of rfl (fre V) (bo_levels_of base V) rfl rfl rfl).imp fun _ _ _ _ q => sp_pure q, V.glo 60, F.kp, F.bindsN fun _ _ _ _ _ _ us hl => match us, hl with | [_, _], _ => rfl⟩⟩
noncomputable def b_is_text_of : SCode := (sSeq (sIf (tOr (tNot (tVal (eUn (oIsi (nat_lit 3) [(nat_lit 3)]) (eVar (nat_lit 1))))) (tVal (eBin oNe (eL oLen (aCons (eVar (nat_lit 1)) aNil)) (eBin (oAdd false) (eAttr (((nat_lit 0), (nat_lit 1)) :: []) [] (eVar (nat_lit 0))) (eAttr (((nat_lit 0), (nat_lit 2)) :: []) [] (eVar (nat_lit 0))))))) (sRet (eC (.bl false))) sPass) (sRet (eAnd (eBin oEq (eBm (some mSCount) none none (eVar (nat_lit 1)) (aCons (eC (.str [nat_lit 114])) aNil)) (eAttr (((nat_lit 0), (nat_lit 1)) :: []) [] (eVar (nat_lit 0)))) (eBin oEq (eBm (some mSCount) none none (eVar (nat_lit 1)) (aCons (eC (.str [nat_lit 115])) aNil)) (eAttr (((nat_lit 0), (nat_lit 2)) :: []) [] (eVar (nat_lit 0)))))))
noncomputable def c_is_text_of : FCode := pureF (fnC [] b_is_text_of)
theorem sc_is_text_of : FnScope ["slope", "value"] ["slope", "value"] (defScope S_is_text_of) := ⟨rfl, rfl, rfl, by decide +kernel, rfl, by decide +kernel, by decide +kernel⟩
theorem bo_is_text_of {w : World} {K : PySem.W.Frag} {mg : Str → Option Value} (base : Heap) (V : EV w K mg) : BodyOk PP w K mg base ["slope", "value"] "is_text_of" (defScope S_is_text_of) (TT w K) 0 (defBody S_is_text_of) b_is_text_of := fun f cdv A outer s H E x hr pa =>
  (sndss_cons (snds_if (sndt_w (sndw_or (sndt_not (gtv (gisiT (n := "str") x (isi_ty_str V) gv (hv := bt_str)))) (sndw_or1 (gtcmp (ol_ne x) (gB x cb_len (ga1 gv snda_nil) (hv := bt_len)) (snd_bin (or_add _) (gattr gv (tbc (sl_Slope_own_rises V) tbn) tbn) (gattr gv (tbc (sl_Slope_own_steps V) tbn) tbn)))))) (sndss_one (snds_ret gBl)) sndss_nil) (sndss_one (snds_ret (snd_and (gcmp (ol_eq x) (gbm gv (ga1 (gGS (k_RISE V)) snda_nil) (fun _ h => by cases h; exact bm_scount) (fun _ h => nomatch h) (fun _ h => nomatch h)) (gattr gv (tbc (sl_Slope_own_rises V) tbn) tbn)) (snd_one (gcmp (ol_eq x) (gbm gv (ga1 (gGS (k_STEP V)) snda_nil) (fun _ h => by cases h; exact bm_scount) (fun _ h => nomatch h) (fun _ h => nomatch h)) (gattr gv (tbc (sl_Slope_own_steps V) tbn) tbn)))))))
theorem ok_is_text_of {w : World} {K : PySem.W.Frag} {mg : Str → Option Value} (base : Heap) (V : EV w K mg) : FnG PP w K mg base "is_text_of" 1 2 (TT w K) c_is_text_of := by
  obtain ⟨fd, F⟩ := V.c.def_ 33
  exact ⟨⟨_, fd, _, (fn_pr F sc_is_text_of rfl (fre V) (bo_is_text_of base V) rfl rfl rfl).imp fun _ _ _ _ q => sp_pure q, V.glo 62, F.kp, F.bindsN fun _ _ _ _ _ _ us hl => match us, hl with | [_, _], _ => rfl⟩⟩
noncomputable def b_is_way_text : SCode := (sRet (eAnd (eCall c_is_text_of (aCons (eVar (nat_lit 0)) (aCons (eVar (nat_lit 1)) aNil))) (eBin oGeX (eL oMin1 (aCons (eCall c_levels_of (aCons (eVar (nat_lit 0)) (aCons (eVar (nat_lit 1)) aNil))) aNil)) (eC (.int (.ofNat (nat_lit 0)))))))
noncomputable def c_is_way_text : FCode := pureF (fnC [] b_is_way_text)
theorem sc_is_way_text : FnScope ["slope", "value"] ["slope", "value"] (defScope S_is_way_text) := ⟨rfl, rfl, rfl, by decide +kernel, rfl, by decide +kernel, by decide +kernel⟩
theorem bo_is_way_text {w : World} {K : PySem.W.Frag} {mg : Str → Option Value} (base : Heap) (V : EV w K mg) : BodyOk PP w K mg base ["slope", "value"] "is_way_text" (defScope S_is_way_text) (TT w K) 1 (defBody S_is_way_text) b_is_way_text := fun f cdv A outer s H E x hr pa =>
  (sndss_one (snds_ret (snd_and (g_call x (hr.mono (by decide)) (ok_is_text_of base V) (ga1 gv (ga1 gv snda_nil))) (snd_one (gcmp (ol_ge x) (gB x (cb_min1 x.hc) (ga1 (g_call x (hr.mono (by decide)) (ok_levels_of base V) (ga1 gv (ga1 gv snda_nil))) snda_nil) (hv := bt_min)) gI)))))
theorem ok_is_way_text {w : World} {K : PySem.W.Frag} {mg : Str → Option Value} (base : Heap) (V : EV w K mg) : FnG PP w K mg base "is_way_text" 2 2 (TT w K) c_is_way_text := by
  obtain ⟨fd, F⟩ := V.c.def_ 34
  exact ⟨⟨_, fd, _, (fn_pr F sc_is_way_text rfl (fre V) (bo_is_way_text base V) rfl rfl rfl).imp fun _ _ _ _ q => sp_pure q, V.glo 63, F.kp, F.bindsN fun _ _ _ _ _ _ us hl => match us, hl with | [_, _], _ => rfl⟩⟩
noncomputable def b_is_way : SCode := (sSeq (sExpr (eCall c_require_slope (aCons (eVar (nat_lit 0)) aNil))) (sRet (eCall c_is_way_text (aCons (eVar (nat_lit 0)) (aCons (eVar (nat_lit 1)) aNil)))))
noncomputable def c_is_way : FCode := pureF (fnC [] b_is_way)
theorem sc_is_way : FnScope ["slope", "value"] ["slope", "value"] (defScope S_is_way) := ⟨rfl, rfl, rfl, by decide +kernel, rfl, by decide +kernel, by decide +kernel⟩
theorem bo_is_way {w : World} {K : PySem.W.Frag} {mg : Str → Option Value} (base : Heap) (V : EV w K mg) : BodyOk PP w K mg base ["slope", "value"] "is_way" (defScope S_is_way) (TT w K) 2 (defBody S_is_way) b_is_way := fun f cdv A outer s H E x hr pa =>
  (sndss_cons (gexpr (g_call x (hr.mono (by decide)) (ok_require_slope base V) (ga1 gv snda_nil))) (sndss_one (snds_ret (g_call x (hr.mono (by decide)) (ok_is_way_text base V) (ga1 gv (ga1 gv snda_nil))))))
theorem ok_is_way {w : World} {K : PySem.W.Frag} {mg : Str → Option Value} (base : Heap) (V : EV w K mg) : FnG PP w K mg base "is_way" 3 2 (TT w K) c_is_way := by
  obtain ⟨fd, F⟩ := V.c.def_ 35
  exact ⟨⟨_, fd, _, (fn_pr F sc_is_way rfl (fre V) (bo_is_way base V) rfl rfl rfl).imp fun _ _ _ _ q => sp_pure q, V.glo 64, F.kp, F.bindsN fun _ _ _ _ _ _ us hl => match us, hl with | [_, _], _ => rfl⟩⟩
noncomputable def b_m_Way___init__ : SCode := (sSeq (sExpr (eCall c_require_slope (aCons (eVar (nat_lit 1)) aNil))) (sSeq (sIf (tNot (tVal (eCall c_is_way_text (aCons (eVar (nat_lit 1)) (aCons (eVar (nat_lit 2)) aNil))))) sNever sPass) (sSeq (sSlot (((nat_lit 1), (nat_lit 1)) :: []) (eVar (nat_lit 0)) (eVar (nat_lit 1))) (sSeq (sSlot (((nat_lit 1), (nat_lit 2)) :: []) (eVar (nat_lit 0)) (eVar (nat_lit 2))) (sSlot (((nat_lit 1), (nat_lit 0)) :: []) (eVar (nat_lit 0)) (eL oTup (aCons (eAttr (((nat_lit 0), (nat_lit 1)) :: []) [] (eVar (nat_lit 1))) (aCons (eAttr (((nat_lit 0), (nat_lit 2)) :: []) [] (eVar (nat_lit 1))) (aCons (eVar (nat_lit 2)) aNil)))))))))
noncomputable def c_m_Way___init__ : FCode := (fnC [] b_m_Way___init__)
theorem sc_m_Way___init__ : FnScope ["self", "slope", "text"] ["self", "slope", "text"] (defScope S_m_Way___init__) := ⟨rfl, rfl, rfl, by decide +kernel, rfl, by decide +kernel, by decide +kernel⟩
theorem bo_m_Way___init__ {w : World} {K : PySem.W.Frag} {mg : Str → Option Value} (base : Heap) (V : EV w K mg) : BodyOk PP w K mg base ["self", "slope", "text"] "Way.__init__" (defScope S_m_Way___init__) (TT w K) 2 (defBody S_m_Way___init__) b_m_Way___init__ := fun f cdv A outer s H E x hr pa =>
  (sndss_cons (gexpr (g_call x (hr.mono (by decide)) (ok_require_slope base V) (ga1 gv snda_nil))) (sndss_cons (snds_if (sndt_not (gtv (g_call x (hr.mono (by decide)) (ok_is_way_text base V) (ga1 gv (ga1 gv snda_nil))))) (sndss_one snds_never) sndss_nil) (sndss_cons (gslot gv gv (tbc (sl_Way_own_slope V) tbn)) (sndss_cons (gslot gv gv (tbc (sl_Way_own_text V) tbn)) (sndss_one (gslot gv (gtup (ga1 (gattr gv (tbc (sl_Slope_own_rises V) tbn) tbn) (ga1 (gattr gv (tbc (sl_Slope_own_steps V) tbn) tbn) (ga1 gv snda_nil)))) (tbc (sl_Way_own_key V) tbn)))))))
theorem ok_m_Way___init__ {w : World} {K : PySem.W.Frag} {mg : Str → Option Value} (base : Heap) (V : EV w K mg) : MakeG PP w K mg base ((TT w K).cls 1) 3 (spOf (TT w K) 3 c_m_Way___init__) := by
  obtain ⟨fd, F⟩ := V.c.def_ 36
  rw [cl_1]
  exact ⟨⟨_, fd, _, He.mkr_ok (V.c.fact 65 (f := .mkr "Way")), fn_pr F sc_m_Way___init__ rfl (fre V) (bo_m_Way___init__ base V) rfl rfl rfl, F.bindsN fun _ _ _ _ _ _ us hl => match us, hl with | [_, _, _], _ => rfl⟩⟩
noncomputable def b_feet_of : SCode := (sRet (eLc false (iRng2 (aCons (eC (.int (.ofNat (nat_lit 1)))) (aCons (eL oLen (aCons (eVar (nat_lit 0)) aNil)) aNil))) [(nat_lit 1)] (gVar (nat_lit 1)) (tVal (eBin oEq (eSl false (eVar (nat_lit 0)) (pSome (eBin oSub (eVar (nat_lit 1)) (eC (.int (.ofNat (nat_lit 1)))))) (pSome (eBin (oAdd false) (eVar (nat_lit 1)) (eC (.int (.ofNat (nat_lit 1))))))) (eC (.str [nat_lit 115, nat_lit 114])))) (eVar (nat_lit 1))))
noncomputable def c_feet_of : FCode := pureF (fnC [none] b_feet_of)
theorem sc_feet_of : FnScope ["text", "at"] ["text"] (defScope S_feet_of) := ⟨rfl, rfl, rfl, by decide +kernel, rfl, by decide +kernel, by decide +kernel⟩
theorem bo_feet_of {w : World} {K : PySem.W.Frag} {mg : Str → Option Value} (base : Heap) (V : EV w K mg) : BodyOk PP w K mg base ["text", "at"] "feet_of" (defScope S_feet_of) (TT w K) 0 (defBody S_feet_of) b_feet_of := fun f cdv A outer s H E x hr pa =>
  (sndss_one (snds_ret (glc [("at", 1)] x (grng2 x (ga1 gI (ga1 (gB x cb_len (ga1 (gv (hv := .inr (.inl rfl))) snda_nil) (hv := bt_len)) snda_nil))) (fun _ _ _ _ _ => (gbv x.b)) (fun _ _ _ _ _ => (sndts_one (gtcmp (ol_eq x.b) (snd_slice (gv (hv := .inr (.inl rfl))) (sndp_some (snd_bin or_sub gv gI)) (sndp_some (snd_bin (or_add _) gv gI))) gS))) (fun _ _ _ _ _ => gv))))
theorem ok_feet_of {w : World} {K : PySem.W.Frag} {mg : Str → Option Value} (base : Heap) (V : EV w K mg) : FnG PP w K mg base "feet_of" 1 1 (TT w K) c_feet_of := by
  obtain ⟨fd, F⟩ := V.c.def_ 37
  exact ⟨⟨_, fd, _, (fn_pr F sc_feet_of rfl (fre V) (bo_feet_of base V) rfl rfl rfl).imp fun _ _ _ _ q => sp_pure q, V.glo 66, F.kp, F.bindsN fun _ _ _ _ _ _ us hl => match us, hl with | [_], _ => rfl⟩⟩
noncomputable def b_m_Way_text : SCode := (sRet (eAttr (((nat_lit 1), (nat_lit 2)) :: []) [] (eVar (nat_lit 0))))
noncomputable def c_m_Way_text : FCode := pureF (fnC [] b_m_Way_text)
theorem sc_m_Way_text : FnScope ["self"] ["self"] (defScope S_m_Way_text) := ⟨rfl, rfl, rfl, by decide +kernel, rfl, by decide +kernel, by decide +kernel⟩
theorem bo_m_Way_text {w : World} {K : PySem.W.Frag} {mg : Str → Option Value} (base : Heap) (V : EV w K mg) : BodyOk PP w K mg base ["self"] "Way.text" (defScope S_m_Way_text) (TT w K) 0 (defBody S_m_Way_text) b_m_Way_text := fun f cdv A outer s H E x hr pa =>
  (sndss_one (snds_ret (gattr gv (tbc (sl_Way_own_text V) tbn) tbn)))
theorem ok_m_Way_text {w : World} {K : PySem.W.Frag} {mg : Str → Option Value} (base : Heap) (V : EV w K mg) : PropG PP w K mg base ((TT w K).cls 1) "text" 1 (spOf (TT w K) 1 c_m_Way_text) := by
  obtain ⟨fd, F⟩ := V.c.def_ 38
  rw [cl_1]
  obtain ⟨h1, h2, h3, h4⟩ := prop_ok (V.c.fy_ 23 (f := .prop "Way" "text"))
  exact ⟨scls_ok (V.c.fy_ 17 (f := .scls "Way")), ⟨_, _, h1, h2, h3, h4, fnok_r ((fn_pr F sc_m_Way_text rfl (fre V) (bo_m_Way_text base V) rfl rfl rfl).imp fun _ _ _ _ q => sp_pure q) (F.bindsN fun _ _ _ _ _ _ us hl => match us, hl with | [_], _ => rfl)⟩⟩
noncomputable def b_m_Way_levels : SCode := (sRet (eL oTuple (aCons (eCall c_levels_of (aCons (eAttr (((nat_lit 1), (nat_lit 1)) :: []) [] (eVar (nat_lit 0))) (aCons (eAttr (((nat_lit 1), (nat_lit 2)) :: []) [] (eVar (nat_lit 0))) aNil))) aNil)))
noncomputable def c_m_Way_levels : FCode := pureF (fnC [] b_m_Way_levels)
theorem sc_m_Way_levels : FnScope ["self"] ["self"] (defScope S_m_Way_levels) := ⟨rfl, rfl, rfl, by decide +kernel, rfl, by decide +kernel, by decide +kernel⟩
theorem bo_m_Way_levels {w : World} {K : PySem.W.Frag} {mg : Str → Option Value} (base : Heap) (V : EV w K mg) : BodyOk PP w K mg base ["self"] "Way.levels" (defScope S_m_Way_levels) (TT w K) 1 (defBody S_m_Way_levels) b_m_Way_levels := fun f cdv A outer s H E x hr pa =>
  (sndss_one (snds_ret (gTy x cb_tuple (ga1 (g_call x (hr.mono (by decide)) (ok_levels_of base V) (ga1 (gattr gv (tbc (sl_Way_own_slope V) tbn) tbn) (ga1 (gattr gv (tbc (sl_Way_own_text V) tbn) tbn) snda_nil))) snda_nil) (hv := bt_tuple))))
theorem ok_m_Way_levels {w : World} {K : PySem.W.Frag} {mg : Str → Option Value} (base : Heap) (V : EV w K mg) : PropG PP w K mg base ((TT w K).cls 1) "levels" 2 (spOf (TT w K) 1 c_m_Way_levels) := by
  obtain ⟨fd, F⟩ := V.c.def_ 39
  rw [cl_1]
  obtain ⟨h1, h2, h3, h4⟩ := prop_ok (V.c.fy_ 24 (f := .prop "Way" "levels"))
  exact ⟨scls_ok (V.c.fy_ 17 (f := .scls "Way")), ⟨_, _, h1, h2, h3, h4, fnok_r ((fn_pr F sc_m_Way_levels rfl (fre V) (bo_m_Way_levels base V) rfl rfl rfl).imp fun _ _ _ _ q => sp_pure q) (F.bindsN fun _ _ _ _ _ _ us hl => match us, hl with | [_], _ => rfl)⟩⟩
noncomputable def b_end_of_line : SCode := (sSeq (sPar (nat_lit 2) (nat_lit 3) (aCons (eL oTupV (aStar (eAttr [] (((nat_lit 1), c_m_Way_levels) :: []) (eVar (nat_lit 0))) (aCons (eC (.int (.ofNat (nat_lit 0)))) aNil))) (aCons (eBin (oAdd false) (eVar (nat_lit 1)) (eC (.int (.ofNat (nat_lit 1))))) aNil))) (sSeq (sWhile (tOr (tVal (eBin oEq (eBin oIxD (eAttr [] (((nat_lit 1), c_m_Way_text) :: []) (eVar (nat_lit 0))) (eVar (nat_lit 3))) (eC (.str [nat_lit 114])))) (tNot (tVal (eChain oLtX oLtX (eBin oIxD (eVar (nat_lit 2)) (eBin (oAdd false) (eVar (nat_lit 3)) (eC (.int (.ofNat (nat_lit 1)))))) (eBin oIxD (eVar (nat_lit 2)) (eVar (nat_lit 1))) (eBin oIxD (eVar (nat_lit 2)) (eVar (nat_lit 3))))))) (sAug (nat_lit 3) oIAdd (eC (.int (.ofNat (nat_lit 1)))))) (sRet (eVar (nat_lit 3)))))
noncomputable def c_end_of_line : FCode := pureF (fnC [none, none] b_end_of_line)
theorem sc_end_of_line : FnScope ["way", "foot", "levels", "at"] ["way", "foot"] (defScope S_end_of_line) := ⟨rfl, rfl, rfl, by decide +kernel, rfl, by decide +kernel, by decide +kernel⟩
theorem bo_end_of_line {w : World} {K : PySem.W.Frag} {mg : Str → Option Value} (base : Heap) (V : EV w K mg) : BodyOk PP w K mg base ["way", "foot", "levels", "at"] "end_of_line" (defScope S_end_of_line) (TT w K) 3 (defBody S_end_of_line) b_end_of_line := fun f cdv A outer s H E x hr pa =>
  (sndss_cons (gpar x (ga1 (snd_tupV (gws (gattr gv tbn (tbc ((ok_m_Way_levels base V).at (hr.mono (by decide))) tbn)) (gw1 gI sndav_nil))) (ga1 (snd_bin (or_add _) gv gI) snda_nil))) (sndss_cons (snds_while pa (sndt_w (sndw_or (gtcmp (ol_eq x) (gix x (gattr gv tbn (tbc ((ok_m_Way_text base V).at (hr.mono (by decide))) tbn)) gv) gS) (sndw_or1 (sndt_not (sndt_chain (ol_lt x) (ol_lt x) (gix x gv (snd_bin (or_add _) gv gI)) (gix x gv gv) (gix x gv gv) rfl))))) (sndss_one (gaug x or_iadd gI))) (sndss_one (snds_ret gv))))
theorem ok_end_of_line {w : World} {K : PySem.W.Frag} {mg : Str → Option Value} (base : Heap) (V : EV w K mg) : FnG PP w K mg base "end_of_line" 4 2 (TT w K) c_end_of_line := by
  obtain ⟨fd, F⟩ := V.c.def_ 40
  exact ⟨⟨_, fd, _, (fn_pr F sc_end_of_line rfl (fre V) (bo_end_of_line base V) rfl rfl rfl).imp fun _ _ _ _ q => sp_pure q, V.glo 67, F.kp, F.bindsN fun _ _ _ _ _ _ us hl => match us, hl with | [_, _], _ => rfl⟩⟩
noncomputable def b_lines_of : SCode := (sSeq (sAsg (eL oCell aNil) (gVar (nat_lit 1))) (sSeq (sFor (iValD (eCall c_feet_of (aCons (eAttr [] (((nat_lit 1), c_m_Way_text) :: []) (eVar (nat_lit 0))) aNil))) (gVar (nat_lit 2)) (sSeq (sAsg (eBm (some mSCount) none none (eSl false (eAttr [] (((nat_lit 1), c_m_Way_text) :: []) (eVar (nat_lit 0))) pNone (pSome (eVar (nat_lit 2)))) (aCons (eC (.str [nat_lit 115])) aNil)) (gVar (nat_lit 3))) (sExpr (eBm none (some mAppend) none (eVar (nat_lit 1)) (aCons (eL oTup (aCons (eBin (oAdd false) (eVar (nat_lit 3)) (eC (.int (.ofNat (nat_lit 1))))) (aCons (eBm (some mSCount) none none (eSl false (eAttr [] (((nat_lit 1), c_m_Way_text) :: []) (eVar (nat_lit 0))) pNone (pSome (eCall c_end_of_line (aCons (eVar (nat_lit 0)) (aCons (eVar (nat_lit 2)) aNil))))) (aCons (eC (.str [nat_lit 115])) aNil)) aNil))) aNil))))) (sRet (eFrz (eVar (nat_lit 1))))))
noncomputable def c_lines_of : FCode := pureF (fnC [none, none, none] b_lines_of)
theorem sc_lines_of : FnScope ["way", "found", "foot", "ahead"] ["way"] (defScope S_lines_of) := ⟨rfl, rfl, rfl, by decide +kernel, rfl, by decide +kernel, by decide +kernel⟩
theorem bo_lines_of {w : World} {K : PySem.W.Frag} {mg : Str → Option Value} (base : Heap) (V : EV w K mg) : BodyOk PP w K mg base ["way", "found", "foot", "ahead"] "lines_of" (defScope S_lines_of) (TT w K) 4 (defBody S_lines_of) b_lines_of := fun f cdv A outer s H E x hr pa =>
  (sndss_cons (gset x (gcell snda_nil)) (sndss_cons (gfor x pa (sndi_valD (g_call x (hr.mono (by decide)) (ok_feet_of base V) (ga1 (gattr gv tbn (tbc ((ok_m_Way_text base V).at (hr.mono (by decide))) tbn)) snda_nil))) (ggv x) (sndss_cons (gset x (gbm (snd_slice (gattr gv tbn (tbc ((ok_m_Way_text base V).at (hr.mono (by decide))) tbn)) sndp_none (sndp_some gv)) (ga1 gS snda_nil) (fun _ h => by cases h; exact bm_scount) (fun _ h => nomatch h) (fun _ h => nomatch h))) (sndss_one (gexpr (gbm gv (ga1 (gtup (ga1 (snd_bin (or_add _) gv gI) (ga1 (gbm (snd_slice (gattr gv tbn (tbc ((ok_m_Way_text base V).at (hr.mono (by decide))) tbn)) sndp_none (sndp_some (g_call x (hr.mono (by decide)) (ok_end_of_line base V) (ga1 gv (ga1 gv snda_nil))))) (ga1 gS snda_nil) (fun _ h => by cases h; exact bm_scount) (fun _ h => nomatch h) (fun _ h => nomatch h)) snda_nil))) snda_nil) (fun _ h => nomatch h) (fun _ h => by cases h; exact bm_append) (fun _ h => nomatch h)))))) (sndss_one (snds_ret (snd_frz gv)))))
theorem ok_lines_of {w : World} {K : PySem.W.Frag} {mg : Str → Option Value} (base : Heap) (V : EV w K mg) : FnG PP w K mg base "lines_of" 5 1 (TT w K) c_lines_of := by
  obtain ⟨fd, F⟩ := V.c.def_ 41
  exact ⟨⟨_, fd, _, (fn_pr F sc_lines_of rfl (fre V) (bo_lines_of base V) rfl rfl rfl).imp fun _ _ _ _ q => sp_pure q, V.glo 68, F.kp, F.bindsN fun _ _ _ _ _ _ us hl => match us, hl with | [_], _ => rfl⟩⟩
noncomputable def b_blocks_of : SCode := (sSeq (sUnp (aCons (eCall c_lines_of (aCons (eVar (nat_lit 0)) aNil)) (aCons eDic0 aNil)) (gConss (gVar (nat_lit 1)) (gConss (gVar (nat_lit 2)) gNils))) (sSeq (sFor (iRng2 (aCons (eC (.int (.ofNat (nat_lit 1)))) (aCons (eAttr [] (((nat_lit 0), c_m_Slope_steps) :: []) (eAttr [] (((nat_lit 1), c_m_Way_slope) :: []) (eVar (nat_lit 0)))) aNil))) (gVar (nat_lit 3)) (sSeq (sAsg (eL oTuple (aCons (eLc false (iValD (eVar (nat_lit 1))) [(nat_lit 5), (nat_lit 6)] (gTups (gConss (gVar (nat_lit 5)) (gConss (gVar (nat_lit 6)) gNils))) tYesC (eChain oLeX oLeX (eVar (nat_lit 5)) (eVar (nat_lit 3)) (eVar (nat_lit 6)))) aNil)) (gVar (nat_lit 4))) (sAsg (eL oTupV (aStar (eBm none none (some mGet) (eVar (nat_lit 2)) (aCons (eVar (nat_lit 4)) (aCons (eL oTup aNil) aNil))) (aCons (eVar (nat_lit 3)) aNil))) (gSubC (eVar (nat_lit 2)) (eVar (nat_lit 4)) oSet)))) (sRet (eL oTuple (aCons (eL (oSorted false) (aCons (eLc false (iValD (eVar (nat_lit 2))) [(nat_lit 4)] (gVar (nat_lit 4)) tYesC (eBin oIxD (eVar (nat_lit 2)) (eVar (nat_lit 4)))) aNil)) aNil)))))
noncomputable def c_blocks_of : FCode := pureF (fnC [none, none, none, none, none, none] b_blocks_of)
theorem sc_blocks_of : FnScope ["way", "lines", "found", "point", "mark", "first", "last"] ["way"] (defScope S_blocks_of) := ⟨rfl, rfl, rfl, by decide +kernel, rfl, by decide +kernel, by decide +kernel⟩
theorem bo_blocks_of {w : World} {K : PySem.W.Frag} {mg : Str → Option Value} (base : Heap) (V : EV w K mg) : BodyOk PP w K mg base ["way", "lines", "found", "point", "mark", "first", "last"] "blocks_of" (defScope S_blocks_of) (TT w K) 5 (defBody S_blocks_of) b_blocks_of := fun f cdv A outer s H E x hr pa =>
  (sndss_cons (gunp x (ga1 (g_call x (hr.mono (by decide)) (ok_lines_of base V) (ga1 gv snda_nil)) (ga1 snd_dic0 snda_nil)) (ggs (ggv x) (ggs (ggv x (hx := .inr rfl) (hf := .inl rfl)) sndgs_nil))) (sndss_cons (gfor x pa (grng2 x (ga1 gI (ga1 (gattr (gattr gv tbn (tbc ((ok_m_Way_slope base V).at (hr.mono (by decide))) tbn)) tbn (tbc ((ok_m_Slope_steps base V).at (hr.mono (by decide))) tbn)) snda_nil))) (ggv x (hx := .inr rfl) (hf := .inl rfl)) (sndss_cons (gset x (gTy x cb_tuple (ga1 (glc [("first", 5), ("last", 6)] x (sndi_valD gv) (fun _ _ _ _ _ => (gbt x.b (gbs (gbv x.b) (gbs (gbv x.b) sndgvs_nil)) (glen_cons (gthru_var _) (glen_cons (gthru_var _) glen_nil)))) (fun _ _ _ _ _ => sndts_nil) (fun _ _ _ _ _ => (snd_chain (ol_le x.b) (ol_le x.b) gv (gv (hv := .inr (.inl rfl))) gv rfl))) snda_nil) (hv := bt_tuple))) (sndss_one (gasg (snd_tupV (gws (gbm (gv (hv := .inr (.inl rfl))) (ga1 gv (ga1 (gtup snda_nil) snda_nil)) (fun _ h => nomatch h) (fun _ h => nomatch h) (fun _ h => by cases h; exact (ol_get x))) (gw1 (gv (hv := .inr (.inl rfl))) sndav_nil))) (gsub x (gv (hv := .inr (.inl rfl))) gv))))) (sndss_one (snds_ret (gTy x cb_tuple (ga1 (gB x (ol_sorted x _) (ga1 (glc [("mark", 4)] x (sndi_valD (gv (hv := .inr (.inl rfl)))) (fun _ _ _ _ _ => (gbv x.b)) (fun _ _ _ _ _ => sndts_nil) (fun _ _ _ _ _ => (gix x.b (gv (hv := .inr (.inl rfl))) gv))) snda_nil) (hv := bt_sorted)) snda_nil) (hv := bt_tuple))))))
theorem ok_blocks_of {w : World} {K : PySem.W.Frag} {mg : Str → Option Value} (base : Heap) (V : EV w K mg) : FnG PP w K mg base "blocks_of" 6 1 (TT w K) c_blocks_of := by
  obtain ⟨fd, F⟩ := V.c.def_ 42
  exact ⟨⟨_, fd, _, (fn_pr F sc_blocks_of rfl (fre V) (bo_blocks_of base V) rfl rfl rfl).imp fun _ _ _ _ q => sp_pure q, V.glo 69, F.kp, F.bindsN fun _ _ _ _ _ _ us hl => match us, hl with | [_], _ => rfl⟩⟩
noncomputable def b_way_with : SCode := (sSeq (sIf (tOr (tVal (eBin oNe (eAttr (((nat_lit 2), (nat_lit 1)) :: []) [] (eVar (nat_lit 1))) (eBin oSub (eAttr [] (((nat_lit 0), c_m_Slope_steps) :: []) (eVar (nat_lit 0))) (eC (.int (.ofNat (nat_lit 1))))))) (tVal (eBin oGtX (eL oLen (aCons (eAttr (((nat_lit 2), (nat_lit 0)) :: []) [] (eVar (nat_lit 1))) aNil)) (eAttr [] (((nat_lit 0), c_m_Slope_rises) :: []) (eVar (nat_lit 0)))))) (sRet (eC .non)) sPass) (sSeq (sAsg (eLc false (iValD (eAttr (((nat_lit 2), (nat_lit 0)) :: []) [] (eVar (nat_lit 1)))) [(nat_lit 3)] (gVar (nat_lit 3)) tYesC (eBin oSub (eBin oIxD (eVar (nat_lit 3)) (eC (.int (.ofNat (nat_lit 0))))) (eC (.int (.ofNat (nat_lit 1)))))) (gVar (nat_lit 2))) (sSeq (sFor (iValD (eCall c_lengths_with (aCons (eAttr [] (((nat_lit 0), c_m_Slope_rises) :: []) (eVar (nat_lit 0))) (aCons (eL oLen (aCons (eVar (nat_lit 2)) aNil)) aNil)))) (gVar (nat_lit 4)) (sSeq (sAsg (eCall c_text_of_runs (aCons (eAttr [] (((nat_lit 0), c_m_Slope_steps) :: []) (eVar (nat_lit 0))) (aCons (eVar (nat_lit 2)) (aCons (eVar (nat_lit 4)) aNil)))) (gVar (nat_lit 5))) (sIf (tVal (eCall c_is_way (aCons (eVar (nat_lit 0)) (aCons (eVar (nat_lit 5)) aNil)))) (sSeq (sAsg (eMake (nat_lit 1) [none, none, none] c_m_Way___init__ (aCons (eVar (nat_lit 0)) (aCons (eVar (nat_lit 5)) aNil))) (gVar (nat_lit 6))) (sIf (tVal (eBin oEq (eCall c_blocks_of (aCons (eVar (nat_lit 6)) aNil)) (eAttr (((nat_lit 2), (nat_lit 0)) :: []) [] (eVar (nat_lit 1))))) (sRet (eVar (nat_lit 6))) sPass)) sPass))) (sRet (eC .non)))))
noncomputable def c_way_with : FCode := pureF (fnC [none, none, none, none, none] b_way_with)
theorem sc_way_with : FnScope ["slope", "parting", "feet", "block", "lengths", "text", "way"] ["slope", "parting"] (defScope S_way_with) := ⟨rfl, rfl, rfl, by decide +kernel, rfl, by decide +kernel, by decide +kernel⟩
theorem bo_way_with {w : World} {K : PySem.W.Frag} {mg : Str → Option Value} (base : Heap) (V : EV w K mg) : BodyOk PP w K mg base ["slope", "parting", "feet", "block", "lengths", "text", "way"] "way_with" (defScope S_way_with) (TT w K) 6 (defBody S_way_with) b_way_with := fun f cdv A outer s H E x hr pa =>
  (sndss_cons (snds_if (sndt_w (sndw_or (gtcmp (ol_ne x) (gattr gv (tbc (sl_Parting_own_size V) tbn) tbn) (snd_bin or_sub (gattr gv tbn (tbc ((ok_m_Slope_steps base V).at (hr.mono (by decide))) tbn)) gI)) (sndw_or1 (gtcmp (ol_gt x) (gB x cb_len (ga1 (gattr gv (tbc (sl_Parting_own_blocks V) tbn) tbn) snda_nil) (hv := bt_len)) (gattr gv tbn (tbc ((ok_m_Slope_rises base V).at (hr.mono (by decide))) tbn)))))) (sndss_one (snds_ret gNo)) sndss_nil) (sndss_cons (gsetlc [("block", 3)] x (sndi_valD (gattr gv (tbc (sl_Parting_own_blocks V) tbn) tbn)) (fun _ _ _ _ _ => (gbv x.b)) (fun _ _ _ _ _ => sndts_nil) (fun _ _ _ _ _ => (snd_bin or_sub (gix x.b gv gI) gI))) (sndss_cons (gfor x pa (sndi_valD (g_call x (hr.mono (by decide)) (ok_lengths_with base V) (ga1 (gattr gv tbn (tbc ((ok_m_Slope_rises base V).at (hr.mono (by decide))) tbn)) (ga1 (gB x cb_len (ga1 gv snda_nil) (hv := bt_len)) snda_nil)))) (ggv x) (sndss_cons (gset x (g_call x (hr.mono (by decide)) (ok_text_of_runs base V) (ga1 (gattr gv tbn (tbc ((ok_m_Slope_steps base V).at (hr.mono (by decide))) tbn)) (ga1 gv (ga1 gv snda_nil))))) (sndss_one (snds_if (gtv (g_call x (hr.mono (by decide)) (ok_is_way base V) (ga1 gv (ga1 gv snda_nil)))) (sndss_cons (gset x (gmk 1 2 x ((ok_m_Way___init__ base V).at (hr.mono (by decide))) (gc_Way V) (ga1 gv (ga1 gv snda_nil)))) (sndss_one (snds_if (gtcmp (ol_eq x) (g_call x (hr.mono (by decide)) (ok_blocks_of base V) (ga1 gv snda_nil)) (gattr gv (tbc (sl_Parting_own_blocks V) tbn) tbn)) (sndss_one (snds_ret gv)) sndss_nil))) sndss_nil)))) (sndss_one (snds_ret gNo)))))
theorem ok_way_with {w : World} {K : PySem.W.Frag} {mg : Str → Option Value} (base : Heap) (V : EV w K mg) : FnG PP w K mg base "way_with" 7 2 (TT w K) c_way_with := by
  obtain ⟨fd, F⟩ := V.c.def_ 43
  exact ⟨⟨_, fd, _, (fn_pr F sc_way_with rfl (fre V) (bo_way_with base V) rfl rfl rfl).imp fun _ _ _ _ q => sp_pure q, V.glo 70, F.kp, F.bindsN fun _ _ _ _ _ _ us hl => match us, hl with | [_, _], _ => rfl⟩⟩
noncomputable def b_parting_of : SCode := (sSeq (sExpr (eCall c_require_way (aCons (eVar (nat_lit 0)) aNil))) (sSeq (sExpr (eCall c_require_flat (aCons (eAttr [] (((nat_lit 1), c_m_Way_slope) :: []) (eVar (nat_lit 0))) aNil))) (sRet (eMake (nat_lit 2) [none, none] c_m_Parting___init__ (aCons (eBin oSub (eAttr [] (((nat_lit 0), c_m_Slope_steps) :: []) (eAttr [] (((nat_lit 1), c_m_Way_slope) :: []) (eVar (nat_lit 0)))) (eC (.int (.ofNat (nat_lit 1))))) (aCons (eCall c_blocks_of (aCons (eVar (nat_lit 0)) aNil)) aNil))))))
noncomputable def c_parting_of : FCode := pureF (fnC [] b_parting_of)
theorem sc_parting_of : FnScope ["way"] ["way"] (defScope S_parting_of) := ⟨rfl, rfl, rfl, by decide +kernel, rfl, by decide +kernel, by decide +kernel⟩
theorem bo_parting_of {w : World} {K : PySem.W.Frag} {mg : Str → Option Value} (base : Heap) (V : EV w K mg) : BodyOk PP w K mg base ["way"] "parting_of" (defScope S_parting_of) (TT w K) 6 (defBody S_parting_of) b_parting_of := fun f cdv A outer s H E x hr pa =>
  (sndss_cons (gexpr (g_call x (hr.mono (by decide)) (ok_require_way base V) (ga1 gv snda_nil))) (sndss_cons (gexpr (g_call x (hr.mono (by decide)) (ok_require_flat base V) (ga1 (gattr gv tbn (tbc ((ok_m_Way_slope base V).at (hr.mono (by decide))) tbn)) snda_nil))) (sndss_one (snds_ret (gmk 2 1 x ((ok_m_Parting___init__ base V).at (hr.mono (by decide))) (gc_Parting V) (ga1 (snd_bin or_sub (gattr (gattr gv tbn (tbc ((ok_m_Way_slope base V).at (hr.mono (by decide))) tbn)) tbn (tbc ((ok_m_Slope_steps base V).at (hr.mono (by decide))) tbn)) gI) (ga1 (g_call x (hr.mono (by decide)) (ok_blocks_of base V) (ga1 gv snda_nil)) snda_nil)))))))
theorem ok_parting_of {w : World} {K : PySem.W.Frag} {mg : Str → Option Value} (base : Heap) (V : EV w K mg) : FnG PP w K mg base "parting_of" 7 1 (TT w K) c_parting_of := by
  obtain ⟨fd, F⟩ := V.c.def_ 44
  exact ⟨⟨_, fd, _, (fn_pr F sc_parting_of rfl (fre V) (bo_parting_of base V) rfl rfl rfl).imp fun _ _ _ _ q => sp_pure q, V.glo 71, F.kp, F.bindsN fun _ _ _ _ _ _ us hl => match us, hl with | [_], _ => rfl⟩⟩
noncomputable def b_turned_way : SCode := (sSeq (sExpr (eCall c_require_way (aCons (eVar (nat_lit 0)) aNil))) (sSeq (sExpr (eCall c_require_integer (aCons (eVar (nat_lit 1)) aNil))) (sSeq (sExpr (eCall c_require_listed (aCons (eAttr [] (((nat_lit 1), c_m_Way_slope) :: []) (eVar (nat_lit 0))) aNil))) (sRet (eCall c_way_with (aCons (eAttr [] (((nat_lit 1), c_m_Way_slope) :: []) (eVar (nat_lit 0))) (aCons (eMeth (((nat_lit 2), c_m_Parting_turned_by) :: []) (eCall c_parting_of (aCons (eVar (nat_lit 0)) aNil)) (aCons (eVar (nat_lit 1)) aNil)) aNil)))))))
noncomputable def c_turned_way : FCode := pureF (fnC [] b_turned_way)
theorem sc_turned_way : FnScope ["way", "many"] ["way", "many"] (defScope S_turned_way) := ⟨rfl, rfl, rfl, by decide +kernel, rfl, by decide +kernel, by decide +kernel⟩
theorem bo_turned_way {w : World} {K : PySem.W.Frag} {mg : Str → Option Value} (base : Heap) (V : EV w K mg) : BodyOk PP w K mg base ["way", "many"] "turned_way" (defScope S_turned_way) (TT w K) 7 (defBody S_turned_way) b_turned_way := fun f cdv A outer s H E x hr pa =>
  (sndss_cons (gexpr (g_call x (hr.mono (by decide)) (ok_require_way base V) (ga1 gv snda_nil))) (sndss_cons (gexpr (g_call x (hr.mono (by decide)) (ok_require_integer base V) (ga1 gv snda_nil))) (sndss_cons (gexpr (g_call x (hr.mono (by decide)) (ok_require_listed base V) (ga1 (gattr gv tbn (tbc ((ok_m_Way_slope base V).at (hr.mono (by decide))) tbn)) snda_nil))) (sndss_one (snds_ret (g_call x (hr.mono (by decide)) (ok_way_with base V) (ga1 (gattr gv tbn (tbc ((ok_m_Way_slope base V).at (hr.mono (by decide))) tbn)) (ga1 (gmeth x (g_call x (hr.mono (by decide)) (ok_parting_of base V) (ga1 gv snda_nil)) (ga1 gv snda_nil) (tbc ((ok_m_Parting_turned_by base V).at (hr.mono (by decide))) tbn)) snda_nil))))))))
theorem ok_turned_way {w : World} {K : PySem.W.Frag} {mg : Str → Option Value} (base : Heap) (V : EV w K mg) : FnG PP w K mg base "turned_way" 8 2 (TT w K) c_turned_way := by
  obtain ⟨fd, F⟩ := V.c.def_ 45
  exact ⟨⟨_, fd, _, (fn_pr F sc_turned_way rfl (fre V) (bo_turned_way base V) rfl rfl rfl).imp fun _ _ _ _ q => sp_pure q, V.glo 72, F.kp, F.bindsN fun _ _ _ _ _ _ us hl => match us, hl with | [_, _], _ => rfl⟩⟩
noncomputable def b_kept : SCode := (sSeq (sExpr (eCall c_require_slope (aCons (eVar (nat_lit 0)) aNil))) (sSeq (sExpr (eCall c_require_integer (aCons (eVar (nat_lit 1)) aNil))) (sSeq (sExpr (eCall c_require_flat (aCons (eVar (nat_lit 0)) aNil))) (sSeq (sAsg (eBin oSubR (eAttr [] (((nat_lit 0), c_m_Slope_steps) :: []) (eVar (nat_lit 0))) (eC (.int (.ofNat (nat_lit 1))))) (gVar (nat_lit 2))) (sSeq (sAsg (eBin oDivR (eVar (nat_lit 2)) (eL oGcdR (aCons (eVar (nat_lit 1)) (aCons (eVar (nat_lit 2)) aNil)))) (gVar (nat_lit 3))) (sSeq (sIf (tVal (eBin oEq (eVar (nat_lit 3)) (eC (.int (.ofNat (nat_lit 1)))))) (sRet (eCall c_way_count (aCons (eVar (nat_lit 0)) aNil))) sPass) (sSeq (sAsg (eBin oDivR (eAttr [] (((nat_lit 0), c_m_Slope_rises) :: []) (eVar (nat_lit 0))) (eVar (nat_lit 3))) (gVar (nat_lit 4))) (sRet (eL oComb (aCons (eBin (oAddR false) (eBin oDivR (eVar (nat_lit 2)) (eVar (nat_lit 3))) (eVar (nat_lit 4))) (aCons (eVar (nat_lit 4)) aNil)))))))))))
noncomputable def c_kept : FCode := pureF (fnC [none, none, none] b_kept)
theorem sc_kept : FnScope ["slope", "many", "points", "order", "parts"] ["slope", "many"] (defScope S_kept) := ⟨rfl, rfl, rfl, by decide +kernel, rfl, by decide +kernel, by decide +kernel⟩
theorem bo_kept {w : World} {K : PySem.W.Frag} {mg : Str → Option Value} (base : Heap) (V : EV w K mg) : BodyOk PP w K mg base ["slope", "many", "points", "order", "parts"] "kept" (defScope S_kept) (TT w K) 3 (defBody S_kept) b_kept := fun f cdv A outer s H E x hr pa =>
  (sndss_cons (gexpr (g_call x (hr.mono (by decide)) (ok_require_slope base V) (ga1 gv snda_nil))) (sndss_cons (gexpr (g_call x (hr.mono (by decide)) (ok_require_integer base V) (ga1 gv snda_nil))) (sndss_cons (gexpr (g_call x (hr.mono (by decide)) (ok_require_flat base V) (ga1 gv snda_nil))) (sndss_cons (gset x (snd_bin or_subR (gattr gv tbn (tbc ((ok_m_Slope_steps base V).at (hr.mono (by decide))) tbn)) gI)) (sndss_cons (gset x (snd_bin or_divR gv (gM cb_gcdR (bi_gcd V) (ga1 gv (ga1 gv snda_nil))))) (sndss_cons (snds_if (gtcmp (ol_eq x) gv gI) (sndss_one (snds_ret (g_call x (hr.mono (by decide)) (ok_way_count base V) (ga1 gv snda_nil)))) sndss_nil) (sndss_cons (gset x (snd_bin or_divR (gattr gv tbn (tbc ((ok_m_Slope_rises base V).at (hr.mono (by decide))) tbn)) gv)) (sndss_one (snds_ret (gM cb_comb (bi_comb V) (ga1 (snd_bin (or_addR _) (snd_bin or_divR gv gv) gv) (ga1 gv snda_nil))))))))))))
theorem ok_kept {w : World} {K : PySem.W.Frag} {mg : Str → Option Value} (base : Heap) (V : EV w K mg) : FnG PP w K mg base "kept" 4 2 (TT w K) c_kept := by
  obtain ⟨fd, F⟩ := V.c.def_ 46
  exact ⟨⟨_, fd, _, (fn_pr F sc_kept rfl (fre V) (bo_kept base V) rfl rfl rfl).imp fun _ _ _ _ q => sp_pure q, V.glo 73, F.kp, F.bindsN fun _ _ _ _ _ _ us hl => match us, hl with | [_, _], _ => rfl⟩⟩
noncomputable def b__law_are_turns_right : SCode := (sSeq (sPar3 (nat_lit 3) (nat_lit 4) (nat_lit 5) (aCons (eMake (nat_lit 0) [none, none, none] c_m_Slope___init__ (aCons (eVar (nat_lit 0)) (aCons (eVar (nat_lit 1)) aNil))) (aCons (eBin oSub (eVar (nat_lit 1)) (eC (.int (.ofNat (nat_lit 1))))) (aCons (eC (.int (.ofNat (nat_lit 0)))) aNil)))) (sSeq (sAsg (eCall c__law_ways_listed (aCons (eVar (nat_lit 0)) (aCons (eVar (nat_lit 1)) aNil))) (gVar (nat_lit 6))) (sSeq (sAsg (eL oDictP (aCons (eLc false (iValD (eVar (nat_lit 6))) [(nat_lit 8)] (gVar (nat_lit 8)) tYesC (eL oTup (aCons (eL oTuple (aCons (eCall c__law_lined_blocks (aCons (eVar (nat_lit 0)) (aCons (eVar (nat_lit 1)) (aCons (eVar (nat_lit 8)) aNil)))) aNil)) (aCons (eVar (nat_lit 8)) aNil)))) aNil)) (gVar (nat_lit 7))) (sSeq (sFor (iValD (eVar (nat_lit 7))) (gVar (nat_lit 9)) (sSeq (sAsg (eL oTuple (aCons (eCall c__law_ring_turned (aCons (eVar (nat_lit 4)) (aCons (eVar (nat_lit 9)) (aCons (eVar (nat_lit 2)) aNil)))) aNil)) (gVar (nat_lit 10))) (sSeq (sAsg (eBin (oAdd false) (eVar (nat_lit 5)) (eL oInt (aCons (eBin oEq (eVar (nat_lit 10)) (eVar (nat_lit 9))) aNil))) (gVar (nat_lit 5))) (sSeq (sIf (tOr (tVal (eBin (oInX true) (eVar (nat_lit 10)) (eVar (nat_lit 7)))) (tVal (eBin oNe (eAttr [] (((nat_lit 2), c_m_Parting_blocks) :: []) (eMeth (((nat_lit 2), c_m_Parting_turned_by) :: []) (eMake (nat_lit 2) [none, none] c_m_Parting___init__ (aCons (eVar (nat_lit 4)) (aCons (eVar (nat_lit 9)) aNil))) (aCons (eVar (nat_lit 2)) aNil))) (eVar (nat_lit 10))))) (sRet (eC (.bl false))) sPass) (sSeq (sAsg (eCall c_turned_way (aCons (eMake (nat_lit 1) [none, none, none] c_m_Way___init__ (aCons (eVar (nat_lit 3)) (aCons (eBin oIxD (eVar (nat_lit 7)) (eVar (nat_lit 9))) aNil))) (aCons (eVar (nat_lit 2)) aNil))) (gVar (nat_lit 11))) (sIf (tOr (tVal (eBin oNe (eAttr [] (((nat_lit 1), c_m_Way_text) :: []) (eVar (nat_lit 11))) (eBin oIxD (eVar (nat_lit 7)) (eVar (nat_lit 10))))) (tVal (eBin oNe (eAttr [] (((nat_lit 2), c_m_Parting_blocks) :: []) (eCall c_parting_of (aCons (eVar (nat_lit 11)) aNil))) (eVar (nat_lit 10))))) (sRet (eC (.bl false))) sPass)))))) (sRet (eBin oEq (eCall c_kept (aCons (eVar (nat_lit 3)) (aCons (eVar (nat_lit 2)) aNil))) (eVar (nat_lit 5))))))))
noncomputable def c__law_are_turns_right : FCode := pureF (fnC [none, none, none, none, none, none, none, none, none] b__law_are_turns_right)
theorem sc__law_are_turns_right : FnScope ["_law_rises", "_law_steps", "_law_many", "_law_slope_here", "_law_size", "_law_still", "_law_texts", "_law_table", "_law_text", "_law_blocks", "_law_turned", "_law_way"] ["_law_rises", "_law_steps", "_law_many"] (defScope S__law_are_turns_right) := ⟨rfl, rfl, rfl, by decide +kernel, rfl, by decide +kernel, by decide +kernel⟩
theorem bo__law_are_turns_right {w : World} {K : PySem.W.Frag} {mg : Str → Option Value} (base : Heap) (V : EV w K mg) : BodyOk PP w K mg base ["_law_rises", "_law_steps", "_law_many", "_law_slope_here", "_law_size", "_law_still", "_law_texts", "_law_table", "_law_text", "_law_blocks", "_law_turned", "_law_way"] "_law_are_turns_right" (defScope S__law_are_turns_right) (TT w K) 8 (defBody S__law_are_turns_right) b__law_are_turns_right := fun f cdv A outer s H E x hr pa =>
  (sndss_cons (gpar3 x (ga1 (gmk 0 2 x ((ok_m_Slope___init__ base V).at (hr.mono (by decide))) (gc_Slope V) (ga1 (gv (hv := .inr (.inl rfl))) (ga1 (gv (hv := .inr (.inl rfl))) snda_nil))) (ga1 (snd_bin or_sub (gv (hv := .inr (.inl rfl))) gI) (ga1 gI snda_nil)))) (sndss_cons (gset x (g_call x (hr.mono (by decide)) (ok__law_ways_listed base V) (ga1 (gv (hv := .inr (.inl rfl))) (ga1 (gv (hv := .inr (.inl rfl))) snda_nil)))) (sndss_cons (gset x (gTy x (ol_dict x) (ga1 (glc [("_law_text", 8)] x (sndi_valD gv) (fun _ _ _ _ _ => (gbv x.b)) (fun _ _ _ _ _ => sndts_nil) (fun _ _ _ _ _ => (gtup (ga1 (gTy x.b cb_tuple (ga1 (g_call x.b (hr.mono (by decide)) (ok__law_lined_blocks base V) (ga1 (gv (hv := .inr (.inl rfl))) (ga1 (gv (hv := .inr (.inl rfl))) (ga1 gv snda_nil)))) snda_nil) (hv := bt_tuple)) (ga1 gv snda_nil))))) snda_nil) (hv := bt_dict))) (sndss_cons (gfor x pa (sndi_valD gv) (ggv x) (sndss_cons (gset x (gTy x cb_tuple (ga1 (g_call x (hr.mono (by decide)) (ok__law_ring_turned base V) (ga1 gv (ga1 gv (ga1 gv snda_nil)))) snda_nil) (hv := bt_tuple))) (sndss_cons (gset x (snd_bin (or_add _) gv (gTy x cb_int (ga1 (gcmp (ol_eq x) gv gv) snda_nil) (hv := bt_int)))) (sndss_cons (snds_if (sndt_w (sndw_or (gtcmp (ol_ni x) gv gv) (sndw_or1 (gtcmp (ol_ne x) (gattr (gmeth x (gmk 2 1 x ((ok_m_Parting___init__ base V).at (hr.mono (by decide))) (gc_Parting V) (ga1 gv (ga1 gv snda_nil))) (ga1 gv snda_nil) (tbc ((ok_m_Parting_turned_by base V).at (hr.mono (by decide))) tbn)) tbn (tbc ((ok_m_Parting_blocks base V).at (hr.mono (by decide))) tbn)) gv)))) (sndss_one (snds_ret gBl)) sndss_nil) (sndss_cons (gset x (g_call x (hr.mono (by decide)) (ok_turned_way base V) (ga1 (gmk 1 2 x ((ok_m_Way___init__ base V).at (hr.mono (by decide))) (gc_Way V) (ga1 gv (ga1 (gix x gv gv) snda_nil))) (ga1 gv snda_nil)))) (sndss_one (snds_if (sndt_w (sndw_or (gtcmp (ol_ne x) (gattr gv tbn (tbc ((ok_m_Way_text base V).at (hr.mono (by decide))) tbn)) (gix x gv gv)) (sndw_or1 (gtcmp (ol_ne x) (gattr (g_call x (hr.mono (by decide)) (ok_parting_of base V) (ga1 gv snda_nil)) tbn (tbc ((ok_m_Parting_blocks base V).at (hr.mono (by decide))) tbn)) gv)))) (sndss_one (snds_ret gBl)) sndss_nil))))))) (sndss_one (snds_ret (gcmp (ol_eq x) (g_call x (hr.mono (by decide)) (ok_kept base V) (ga1 gv (ga1 gv snda_nil))) gv)))))))
theorem ok__law_are_turns_right {w : World} {K : PySem.W.Frag} {mg : Str → Option Value} (base : Heap) (V : EV w K mg) : FnG PP w K mg base "_law_are_turns_right" 9 3 (TT w K) c__law_are_turns_right := by
  obtain ⟨fd, F⟩ := V.c.def_ 47
  exact ⟨⟨_, fd, _, (fn_pr F sc__law_are_turns_right rfl (fre V) (bo__law_are_turns_right base V) rfl rfl rfl).imp fun _ _ _ _ q => sp_pure q, V.glo 74, F.kp, F.bindsN fun _ _ _ _ _ _ us hl => match us, hl with | [_, _, _], _ => rfl⟩⟩
theorem chk_1_2_0 : isT (c__law_are_turns_right [.int (.ofNat (nat_lit 1)), .int (.ofNat (nat_lit 2)), .rng (.ofNat (nat_lit 0)) (.negSucc (nat_lit 0))] [] kRet kExc) = true := by decide +kernel
theorem chks_1_2 : ∀ r, r < 1 → isT (c__law_are_turns_right [.int (.ofNat (nat_lit 1)), .int (.ofNat (nat_lit 2)), .rng (.ofNat r) (.negSucc (nat_lit 0))] [] kRet kExc) = true := fun r h => match r, h with
  | 0, _ => chk_1_2_0
  | _ + 1, h => absurd h (by omega)
theorem chk_1_3_0 : isT (c__law_are_turns_right [.int (.ofNat (nat_lit 1)), .int (.ofNat (nat_lit 3)), .rng (.ofNat (nat_lit 0)) (.negSucc (nat_lit 1))] [] kRet kExc) = true := by decide +kernel
theorem chk_1_3_1 : isT (c__law_are_turns_right [.int (.ofNat (nat_lit 1)), .int (.ofNat (nat_lit 3)), .rng (.ofNat (nat_lit 1)) (.negSucc (nat_lit 1))] [] kRet kExc) = true := by decide +kernel
theorem chks_1_3 : ∀ r, r < 2 → isT (c__law_are_turns_right [.int (.ofNat (nat_lit 1)), .int (.ofNat (nat_lit 3)), .rng (.ofNat r) (.negSucc (nat_lit 1))] [] kRet kExc) = true := fun r h => match r, h with
  | 0, _ => chk_1_3_0
  | 1, _ => chk_1_3_1
  | _ + 2, h => absurd h (by omega)
theorem chk_1_4_0 : isT (c__law_are_turns_right [.int (.ofNat (nat_lit 1)), .int (.ofNat (nat_lit 4)), .rng (.ofNat (nat_lit 0)) (.negSucc (nat_lit 2))] [] kRet kExc) = true := by decide +kernel
theorem chk_1_4_1 : isT (c__law_are_turns_right [.int (.ofNat (nat_lit 1)), .int (.ofNat (nat_lit 4)), .rng (.ofNat (nat_lit 1)) (.negSucc (nat_lit 2))] [] kRet kExc) = true := by decide +kernel
theorem chk_1_4_2 : isT (c__law_are_turns_right [.int (.ofNat (nat_lit 1)), .int (.ofNat (nat_lit 4)), .rng (.ofNat (nat_lit 2)) (.negSucc (nat_lit 2))] [] kRet kExc) = true := by decide +kernel
theorem chks_1_4 : ∀ r, r < 3 → isT (c__law_are_turns_right [.int (.ofNat (nat_lit 1)), .int (.ofNat (nat_lit 4)), .rng (.ofNat r) (.negSucc (nat_lit 2))] [] kRet kExc) = true := fun r h => match r, h with
  | 0, _ => chk_1_4_0
  | 1, _ => chk_1_4_1
  | 2, _ => chk_1_4_2
  | _ + 3, h => absurd h (by omega)
theorem chk_1_5_0 : isT (c__law_are_turns_right [.int (.ofNat (nat_lit 1)), .int (.ofNat (nat_lit 5)), .rng (.ofNat (nat_lit 0)) (.negSucc (nat_lit 3))] [] kRet kExc) = true := by decide +kernel
theorem chk_1_5_1 : isT (c__law_are_turns_right [.int (.ofNat (nat_lit 1)), .int (.ofNat (nat_lit 5)), .rng (.ofNat (nat_lit 1)) (.negSucc (nat_lit 3))] [] kRet kExc) = true := by decide +kernel
theorem chk_1_5_2 : isT (c__law_are_turns_right [.int (.ofNat (nat_lit 1)), .int (.ofNat (nat_lit 5)), .rng (.ofNat (nat_lit 2)) (.negSucc (nat_lit 3))] [] kRet kExc) = true := by decide +kernel
theorem chk_1_5_3 : isT (c__law_are_turns_right [.int (.ofNat (nat_lit 1)), .int (.ofNat (nat_lit 5)), .rng (.ofNat (nat_lit 3)) (.negSucc (nat_lit 3))] [] kRet kExc) = true := by decide +kernel
theorem chks_1_5 : ∀ r, r < 4 → isT (c__law_are_turns_right [.int (.ofNat (nat_lit 1)), .int (.ofNat (nat_lit 5)), .rng (.ofNat r) (.negSucc (nat_lit 3))] [] kRet kExc) = true := fun r h => match r, h with
  | 0, _ => chk_1_5_0
  | 1, _ => chk_1_5_1
  | 2, _ => chk_1_5_2
  | 3, _ => chk_1_5_3
  | _ + 4, h => absurd h (by omega)
theorem chk_1_6_0 : isT (c__law_are_turns_right [.int (.ofNat (nat_lit 1)), .int (.ofNat (nat_lit 6)), .rng (.ofNat (nat_lit 0)) (.negSucc (nat_lit 4))] [] kRet kExc) = true := by decide +kernel
theorem chk_1_6_1 : isT (c__law_are_turns_right [.int (.ofNat (nat_lit 1)), .int (.ofNat (nat_lit 6)), .rng (.ofNat (nat_lit 1)) (.negSucc (nat_lit 4))] [] kRet kExc) = true := by decide +kernel
theorem chk_1_6_2 : isT (c__law_are_turns_right [.int (.ofNat (nat_lit 1)), .int (.ofNat (nat_lit 6)), .rng (.ofNat (nat_lit 2)) (.negSucc (nat_lit 4))] [] kRet kExc) = true := by decide +kernel
theorem chk_1_6_3 : isT (c__law_are_turns_right [.int (.ofNat (nat_lit 1)), .int (.ofNat (nat_lit 6)), .rng (.ofNat (nat_lit 3)) (.negSucc (nat_lit 4))] [] kRet kExc) = true := by decide +kernel
theorem chk_1_6_4 : isT (c__law_are_turns_right [.int (.ofNat (nat_lit 1)), .int (.ofNat (nat_lit 6)), .rng (.ofNat (nat_lit 4)) (.negSucc (nat_lit 4))] [] kRet kExc) = true := by decide +kernel
theorem chks_1_6 : ∀ r, r < 5 → isT (c__law_are_turns_right [.int (.ofNat (nat_lit 1)), .int (.ofNat (nat_lit 6)), .rng (.ofNat r) (.negSucc (nat_lit 4))] [] kRet kExc) = true := fun r h => match r, h with
  | 0, _ => chk_1_6_0
  | 1, _ => chk_1_6_1
  | 2, _ => chk_1_6_2
  | 3, _ => chk_1_6_3
  | 4, _ => chk_1_6_4
  | _ + 5, h => absurd h (by omega)
theorem chk_1_7_0 : isT (c__law_are_turns_right [.int (.ofNat (nat_lit 1)), .int (.ofNat (nat_lit 7)), .rng (.ofNat (nat_lit 0)) (.negSucc (nat_lit 5))] [] kRet kExc) = true := by decide +kernel
theorem chk_1_7_1 : isT (c__law_are_turns_right [.int (.ofNat (nat_lit 1)), .int (.ofNat (nat_lit 7)), .rng (.ofNat (nat_lit 1)) (.negSucc (nat_lit 5))] [] kRet kExc) = true := by decide +kernel
theorem chk_1_7_2 : isT (c__law_are_turns_right [.int (.ofNat (nat_lit 1)), .int (.ofNat (nat_lit 7)), .rng (.ofNat (nat_lit 2)) (.negSucc (nat_lit 5))] [] kRet kExc) = true := by decide +kernel
theorem chk_1_7_3 : isT (c__law_are_turns_right [.int (.ofNat (nat_lit 1)), .int (.ofNat (nat_lit 7)), .rng (.ofNat (nat_lit 3)) (.negSucc (nat_lit 5))] [] kRet kExc) = true := by decide +kernel
theorem chk_1_7_4 : isT (c__law_are_turns_right [.int (.ofNat (nat_lit 1)), .int (.ofNat (nat_lit 7)), .rng (.ofNat (nat_lit 4)) (.negSucc (nat_lit 5))] [] kRet kExc) = true := by decide +kernel
theorem chk_1_7_5 : isT (c__law_are_turns_right [.int (.ofNat (nat_lit 1)), .int (.ofNat (nat_lit 7)), .rng (.ofNat (nat_lit 5)) (.negSucc (nat_lit 5))] [] kRet kExc) = true := by decide +kernel
theorem chks_1_7 : ∀ r, r < 6 → isT (c__law_are_turns_right [.int (.ofNat (nat_lit 1)), .int (.ofNat (nat_lit 7)), .rng (.ofNat r) (.negSucc (nat_lit 5))] [] kRet kExc) = true := fun r h => match r, h with
  | 0, _ => chk_1_7_0
  | 1, _ => chk_1_7_1
  | 2, _ => chk_1_7_2
  | 3, _ => chk_1_7_3
  | 4, _ => chk_1_7_4
  | 5, _ => chk_1_7_5
  | _ + 6, h => absurd h (by omega)
theorem chk_1_8_0 : isT (c__law_are_turns_right [.int (.ofNat (nat_lit 1)), .int (.ofNat (nat_lit 8)), .rng (.ofNat (nat_lit 0)) (.negSucc (nat_lit 6))] [] kRet kExc) = true := by decide +kernel
theorem chk_1_8_1 : isT (c__law_are_turns_right [.int (.ofNat (nat_lit 1)), .int (.ofNat (nat_lit 8)), .rng (.ofNat (nat_lit 1)) (.negSucc (nat_lit 6))] [] kRet kExc) = true := by decide +kernel
theorem chk_1_8_2 : isT (c__law_are_turns_right [.int (.ofNat (nat_lit 1)), .int (.ofNat (nat_lit 8)), .rng (.ofNat (nat_lit 2)) (.negSucc (nat_lit 6))] [] kRet kExc) = true := by decide +kernel
theorem chk_1_8_3 : isT (c__law_are_turns_right [.int (.ofNat (nat_lit 1)), .int (.ofNat (nat_lit 8)), .rng (.ofNat (nat_lit 3)) (.negSucc (nat_lit 6))] [] kRet kExc) = true := by decide +kernel
theorem chk_1_8_4 : isT (c__law_are_turns_right [.int (.ofNat (nat_lit 1)), .int (.ofNat (nat_lit 8)), .rng (.ofNat (nat_lit 4)) (.negSucc (nat_lit 6))] [] kRet kExc) = true := by decide +kernel
theorem chk_1_8_5 : isT (c__law_are_turns_right [.int (.ofNat (nat_lit 1)), .int (.ofNat (nat_lit 8)), .rng (.ofNat (nat_lit 5)) (.negSucc (nat_lit 6))] [] kRet kExc) = true := by decide +kernel
theorem chk_1_8_6 : isT (c__law_are_turns_right [.int (.ofNat (nat_lit 1)), .int (.ofNat (nat_lit 8)), .rng (.ofNat (nat_lit 6)) (.negSucc (nat_lit 6))] [] kRet kExc) = true := by decide +kernel
theorem chks_1_8 : ∀ r, r < 7 → isT (c__law_are_turns_right [.int (.ofNat (nat_lit 1)), .int (.ofNat (nat_lit 8)), .rng (.ofNat r) (.negSucc (nat_lit 6))] [] kRet kExc) = true := fun r h => match r, h with
  | 0, _ => chk_1_8_0
  | 1, _ => chk_1_8_1
  | 2, _ => chk_1_8_2
  | 3, _ => chk_1_8_3
  | 4, _ => chk_1_8_4
  | 5, _ => chk_1_8_5
  | 6, _ => chk_1_8_6
  | _ + 7, h => absurd h (by omega)
theorem chk_1_9_0 : isT (c__law_are_turns_right [.int (.ofNat (nat_lit 1)), .int (.ofNat (nat_lit 9)), .rng (.ofNat (nat_lit 0)) (.negSucc (nat_lit 7))] [] kRet kExc) = true := by decide +kernel
theorem chk_1_9_1 : isT (c__law_are_turns_right [.int (.ofNat (nat_lit 1)), .int (.ofNat (nat_lit 9)), .rng (.ofNat (nat_lit 1)) (.negSucc (nat_lit 7))] [] kRet kExc) = true := by decide +kernel
theorem chk_1_9_2 : isT (c__law_are_turns_right [.int (.ofNat (nat_lit 1)), .int (.ofNat (nat_lit 9)), .rng (.ofNat (nat_lit 2)) (.negSucc (nat_lit 7))] [] kRet kExc) = true := by decide +kernel
theorem chk_1_9_3 : isT (c__law_are_turns_right [.int (.ofNat (nat_lit 1)), .int (.ofNat (nat_lit 9)), .rng (.ofNat (nat_lit 3)) (.negSucc (nat_lit 7))] [] kRet kExc) = true := by decide +kernel
theorem chk_1_9_4 : isT (c__law_are_turns_right [.int (.ofNat (nat_lit 1)), .int (.ofNat (nat_lit 9)), .rng (.ofNat (nat_lit 4)) (.negSucc (nat_lit 7))] [] kRet kExc) = true := by decide +kernel
theorem chk_1_9_5 : isT (c__law_are_turns_right [.int (.ofNat (nat_lit 1)), .int (.ofNat (nat_lit 9)), .rng (.ofNat (nat_lit 5)) (.negSucc (nat_lit 7))] [] kRet kExc) = true := by decide +kernel
theorem chk_1_9_6 : isT (c__law_are_turns_right [.int (.ofNat (nat_lit 1)), .int (.ofNat (nat_lit 9)), .rng (.ofNat (nat_lit 6)) (.negSucc (nat_lit 7))] [] kRet kExc) = true := by decide +kernel
theorem chk_1_9_7 : isT (c__law_are_turns_right [.int (.ofNat (nat_lit 1)), .int (.ofNat (nat_lit 9)), .rng (.ofNat (nat_lit 7)) (.negSucc (nat_lit 7))] [] kRet kExc) = true := by decide +kernel
theorem chks_1_9 : ∀ r, r < 8 → isT (c__law_are_turns_right [.int (.ofNat (nat_lit 1)), .int (.ofNat (nat_lit 9)), .rng (.ofNat r) (.negSucc (nat_lit 7))] [] kRet kExc) = true := fun r h => match r, h with
  | 0, _ => chk_1_9_0
  | 1, _ => chk_1_9_1
  | 2, _ => chk_1_9_2
  | 3, _ => chk_1_9_3
  | 4, _ => chk_1_9_4
  | 5, _ => chk_1_9_5
  | 6, _ => chk_1_9_6
  | 7, _ => chk_1_9_7
  | _ + 8, h => absurd h (by omega)
theorem chk_2_3_0 : isT (c__law_are_turns_right [.int (.ofNat (nat_lit 2)), .int (.ofNat (nat_lit 3)), .rng (.ofNat (nat_lit 0)) (.negSucc (nat_lit 1))] [] kRet kExc) = true := by decide +kernel
theorem chk_2_3_1 : isT (c__law_are_turns_right [.int (.ofNat (nat_lit 2)), .int (.ofNat (nat_lit 3)), .rng (.ofNat (nat_lit 1)) (.negSucc (nat_lit 1))] [] kRet kExc) = true := by decide +kernel
theorem chks_2_3 : ∀ r, r < 2 → isT (c__law_are_turns_right [.int (.ofNat (nat_lit 2)), .int (.ofNat (nat_lit 3)), .rng (.ofNat r) (.negSucc (nat_lit 1))] [] kRet kExc) = true := fun r h => match r, h with
  | 0, _ => chk_2_3_0
  | 1, _ => chk_2_3_1
  | _ + 2, h => absurd h (by omega)
theorem chk_2_5_0 : isT (c__law_are_turns_right [.int (.ofNat (nat_lit 2)), .int (.ofNat (nat_lit 5)), .rng (.ofNat (nat_lit 0)) (.negSucc (nat_lit 3))] [] kRet kExc) = true := by decide +kernel
theorem chk_2_5_1 : isT (c__law_are_turns_right [.int (.ofNat (nat_lit 2)), .int (.ofNat (nat_lit 5)), .rng (.ofNat (nat_lit 1)) (.negSucc (nat_lit 3))] [] kRet kExc) = true := by decide +kernel
theorem chk_2_5_2 : isT (c__law_are_turns_right [.int (.ofNat (nat_lit 2)), .int (.ofNat (nat_lit 5)), .rng (.ofNat (nat_lit 2)) (.negSucc (nat_lit 3))] [] kRet kExc) = true := by decide +kernel
theorem chk_2_5_3 : isT (c__law_are_turns_right [.int (.ofNat (nat_lit 2)), .int (.ofNat (nat_lit 5)), .rng (.ofNat (nat_lit 3)) (.negSucc (nat_lit 3))] [] kRet kExc) = true := by decide +kernel
theorem chks_2_5 : ∀ r, r < 4 → isT (c__law_are_turns_right [.int (.ofNat (nat_lit 2)), .int (.ofNat (nat_lit 5)), .rng (.ofNat r) (.negSucc (nat_lit 3))] [] kRet kExc) = true := fun r h => match r, h with
  | 0, _ => chk_2_5_0
  | 1, _ => chk_2_5_1
  | 2, _ => chk_2_5_2
  | 3, _ => chk_2_5_3
  | _ + 4, h => absurd h (by omega)
theorem chk_2_7_0 : isT (c__law_are_turns_right [.int (.ofNat (nat_lit 2)), .int (.ofNat (nat_lit 7)), .rng (.ofNat (nat_lit 0)) (.negSucc (nat_lit 5))] [] kRet kExc) = true := by decide +kernel
theorem chk_2_7_1 : isT (c__law_are_turns_right [.int (.ofNat (nat_lit 2)), .int (.ofNat (nat_lit 7)), .rng (.ofNat (nat_lit 1)) (.negSucc (nat_lit 5))] [] kRet kExc) = true := by decide +kernel
theorem chk_2_7_2 : isT (c__law_are_turns_right [.int (.ofNat (nat_lit 2)), .int (.ofNat (nat_lit 7)), .rng (.ofNat (nat_lit 2)) (.negSucc (nat_lit 5))] [] kRet kExc) = true := by decide +kernel
theorem chk_2_7_3 : isT (c__law_are_turns_right [.int (.ofNat (nat_lit 2)), .int (.ofNat (nat_lit 7)), .rng (.ofNat (nat_lit 3)) (.negSucc (nat_lit 5))] [] kRet kExc) = true := by decide +kernel
theorem chk_2_7_4 : isT (c__law_are_turns_right [.int (.ofNat (nat_lit 2)), .int (.ofNat (nat_lit 7)), .rng (.ofNat (nat_lit 4)) (.negSucc (nat_lit 5))] [] kRet kExc) = true := by decide +kernel
theorem chk_2_7_5 : isT (c__law_are_turns_right [.int (.ofNat (nat_lit 2)), .int (.ofNat (nat_lit 7)), .rng (.ofNat (nat_lit 5)) (.negSucc (nat_lit 5))] [] kRet kExc) = true := by decide +kernel
theorem chks_2_7 : ∀ r, r < 6 → isT (c__law_are_turns_right [.int (.ofNat (nat_lit 2)), .int (.ofNat (nat_lit 7)), .rng (.ofNat r) (.negSucc (nat_lit 5))] [] kRet kExc) = true := fun r h => match r, h with
  | 0, _ => chk_2_7_0
  | 1, _ => chk_2_7_1
  | 2, _ => chk_2_7_2
  | 3, _ => chk_2_7_3
  | 4, _ => chk_2_7_4
  | 5, _ => chk_2_7_5
  | _ + 6, h => absurd h (by omega)
theorem chk_3_4_0 : isT (c__law_are_turns_right [.int (.ofNat (nat_lit 3)), .int (.ofNat (nat_lit 4)), .rng (.ofNat (nat_lit 0)) (.negSucc (nat_lit 2))] [] kRet kExc) = true := by decide +kernel
theorem chk_3_4_1 : isT (c__law_are_turns_right [.int (.ofNat (nat_lit 3)), .int (.ofNat (nat_lit 4)), .rng (.ofNat (nat_lit 1)) (.negSucc (nat_lit 2))] [] kRet kExc) = true := by decide +kernel
theorem chk_3_4_2 : isT (c__law_are_turns_right [.int (.ofNat (nat_lit 3)), .int (.ofNat (nat_lit 4)), .rng (.ofNat (nat_lit 2)) (.negSucc (nat_lit 2))] [] kRet kExc) = true := by decide +kernel
theorem chks_3_4 : ∀ r, r < 3 → isT (c__law_are_turns_right [.int (.ofNat (nat_lit 3)), .int (.ofNat (nat_lit 4)), .rng (.ofNat r) (.negSucc (nat_lit 2))] [] kRet kExc) = true := fun r h => match r, h with
  | 0, _ => chk_3_4_0
  | 1, _ => chk_3_4_1
  | 2, _ => chk_3_4_2
  | _ + 3, h => absurd h (by omega)
theorem chk_3_5_0 : isT (c__law_are_turns_right [.int (.ofNat (nat_lit 3)), .int (.ofNat (nat_lit 5)), .rng (.ofNat (nat_lit 0)) (.negSucc (nat_lit 3))] [] kRet kExc) = true := by decide +kernel
theorem chk_3_5_1 : isT (c__law_are_turns_right [.int (.ofNat (nat_lit 3)), .int (.ofNat (nat_lit 5)), .rng (.ofNat (nat_lit 1)) (.negSucc (nat_lit 3))] [] kRet kExc) = true := by decide +kernel
theorem chk_3_5_2 : isT (c__law_are_turns_right [.int (.ofNat (nat_lit 3)), .int (.ofNat (nat_lit 5)), .rng (.ofNat (nat_lit 2)) (.negSucc (nat_lit 3))] [] kRet kExc) = true := by decide +kernel
theorem chk_3_5_3 : isT (c__law_are_turns_right [.int (.ofNat (nat_lit 3)), .int (.ofNat (nat_lit 5)), .rng (.ofNat (nat_lit 3)) (.negSucc (nat_lit 3))] [] kRet kExc) = true := by decide +kernel
theorem chks_3_5 : ∀ r, r < 4 → isT (c__law_are_turns_right [.int (.ofNat (nat_lit 3)), .int (.ofNat (nat_lit 5)), .rng (.ofNat r) (.negSucc (nat_lit 3))] [] kRet kExc) = true := fun r h => match r, h with
  | 0, _ => chk_3_5_0
  | 1, _ => chk_3_5_1
  | 2, _ => chk_3_5_2
  | 3, _ => chk_3_5_3
  | _ + 4, h => absurd h (by omega)
theorem chk_3_7_0 : isT (c__law_are_turns_right [.int (.ofNat (nat_lit 3)), .int (.ofNat (nat_lit 7)), .rng (.ofNat (nat_lit 0)) (.negSucc (nat_lit 5))] [] kRet kExc) = true := by decide +kernel
theorem chk_3_7_1 : isT (c__law_are_turns_right [.int (.ofNat (nat_lit 3)), .int (.ofNat (nat_lit 7)), .rng (.ofNat (nat_lit 1)) (.negSucc (nat_lit 5))] [] kRet kExc) = true := by decide +kernel
theorem chk_3_7_2 : isT (c__law_are_turns_right [.int (.ofNat (nat_lit 3)), .int (.ofNat (nat_lit 7)), .rng (.ofNat (nat_lit 2)) (.negSucc (nat_lit 5))] [] kRet kExc) = true := by decide +kernel
theorem chk_3_7_3 : isT (c__law_are_turns_right [.int (.ofNat (nat_lit 3)), .int (.ofNat (nat_lit 7)), .rng (.ofNat (nat_lit 3)) (.negSucc (nat_lit 5))] [] kRet kExc) = true := by decide +kernel
theorem chk_3_7_4 : isT (c__law_are_turns_right [.int (.ofNat (nat_lit 3)), .int (.ofNat (nat_lit 7)), .rng (.ofNat (nat_lit 4)) (.negSucc (nat_lit 5))] [] kRet kExc) = true := by decide +kernel
theorem chk_3_7_5 : isT (c__law_are_turns_right [.int (.ofNat (nat_lit 3)), .int (.ofNat (nat_lit 7)), .rng (.ofNat (nat_lit 5)) (.negSucc (nat_lit 5))] [] kRet kExc) = true := by decide +kernel
theorem chks_3_7 : ∀ r, r < 6 → isT (c__law_are_turns_right [.int (.ofNat (nat_lit 3)), .int (.ofNat (nat_lit 7)), .rng (.ofNat r) (.negSucc (nat_lit 5))] [] kRet kExc) = true := fun r h => match r, h with
  | 0, _ => chk_3_7_0
  | 1, _ => chk_3_7_1
  | 2, _ => chk_3_7_2
  | 3, _ => chk_3_7_3
  | 4, _ => chk_3_7_4
  | 5, _ => chk_3_7_5
  | _ + 6, h => absurd h (by omega)
theorem chk_4_5_0 : isT (c__law_are_turns_right [.int (.ofNat (nat_lit 4)), .int (.ofNat (nat_lit 5)), .rng (.ofNat (nat_lit 0)) (.negSucc (nat_lit 3))] [] kRet kExc) = true := by decide +kernel
theorem chk_4_5_1 : isT (c__law_are_turns_right [.int (.ofNat (nat_lit 4)), .int (.ofNat (nat_lit 5)), .rng (.ofNat (nat_lit 1)) (.negSucc (nat_lit 3))] [] kRet kExc) = true := by decide +kernel
theorem chk_4_5_2 : isT (c__law_are_turns_right [.int (.ofNat (nat_lit 4)), .int (.ofNat (nat_lit 5)), .rng (.ofNat (nat_lit 2)) (.negSucc (nat_lit 3))] [] kRet kExc) = true := by decide +kernel
theorem chk_4_5_3 : isT (c__law_are_turns_right [.int (.ofNat (nat_lit 4)), .int (.ofNat (nat_lit 5)), .rng (.ofNat (nat_lit 3)) (.negSucc (nat_lit 3))] [] kRet kExc) = true := by decide +kernel
theorem chks_4_5 : ∀ r, r < 4 → isT (c__law_are_turns_right [.int (.ofNat (nat_lit 4)), .int (.ofNat (nat_lit 5)), .rng (.ofNat r) (.negSucc (nat_lit 3))] [] kRet kExc) = true := fun r h => match r, h with
  | 0, _ => chk_4_5_0
  | 1, _ => chk_4_5_1
  | 2, _ => chk_4_5_2
  | 3, _ => chk_4_5_3
  | _ + 4, h => absurd h (by omega)
def pairs : List (Nat × Nat) := [(1, 2), (1, 3), (1, 4), (1, 5), (1, 6), (1, 7), (1, 8), (1, 9), (2, 3), (2, 5), (2, 7), (3, 4), (3, 5), (3, 7), (4, 5)]
theorem chk_all : ∀ p ∈ pairs, 2 ≤ p.2 ∧ ∀ r, r < p.2 - 1 → isT (c__law_are_turns_right [.int (.ofNat p.1), .int (.ofNat p.2), .rng (.ofNat r) (.negSucc (p.2 - 2))] [] kRet kExc) = true := by
  intro p hp
  simp only [pairs, List.mem_cons, List.not_mem_nil, or_false] at hp
  rcases hp with rfl | rfl | rfl | rfl | rfl | rfl | rfl | rfl | rfl | rfl | rfl | rfl | rfl | rfl | rfl
  · exact ⟨by decide, chks_1_2⟩
  · exact ⟨by decide, chks_1_3⟩
  · exact ⟨by decide, chks_1_4⟩
  · exact ⟨by decide, chks_1_5⟩
  · exact ⟨by decide, chks_1_6⟩
  · exact ⟨by decide, chks_1_7⟩
  · exact ⟨by decide, chks_1_8⟩
  · exact ⟨by decide, chks_1_9⟩
  · exact ⟨by decide, chks_2_3⟩
  · exact ⟨by decide, chks_2_5⟩
  · exact ⟨by decide, chks_2_7⟩
  · exact ⟨by decide, chks_3_4⟩
  · exact ⟨by decide, chks_3_5⟩
  · exact ⟨by decide, chks_3_7⟩
  · exact ⟨by decide, chks_4_5⟩
noncomputable def okMany (d : DV) : Bool := match d with
  | .int i => iLt (iNeg tenP) i && iLt i tenP
  | .rng lo hi => iLt lo hi && (iLt (iNeg tenP) lo && iLe hi tenP)
  | _ => false
noncomputable def dom (ds : List DV) : Bool := match ds with
  | [.int (.ofNat a), .int (.ofNat b), d] => pairs.any (fun p => Nat.beq p.1 a && Nat.beq p.2 b) && okMany d
  | _ => false
theorem okMany_ok {T : Tab} {F : Fz} {H : Hp} {d : DV} {v : V} (h : okMany d = true) (r : RVI T F H d v) : ∃ i : Int, v = .int i ∧ -(10 ^ 50) < i ∧ i < 10 ^ 50 := by
  unfold okMany at h
  split at h
  · rename_i i
    obtain ⟨h1, h2⟩ := He.ba h
    rw [iLt_eq, iNeg_eq, tenP_eq] at h1
    rw [iLt_eq, tenP_eq] at h2
    cases r
    exact ⟨i, rfl, of_decide_eq_true h1, of_decide_eq_true h2⟩
  · rename_i lo hi
    obtain ⟨h0, h⟩ := He.ba h
    obtain ⟨h1, h2⟩ := He.ba h
    rw [iLt_eq] at h0
    rw [iLt_eq, iNeg_eq, tenP_eq] at h1
    rw [iLe_eq, tenP_eq] at h2
    have h0 := of_decide_eq_true h0
    have h1 : -(10 ^ 50) < lo := of_decide_eq_true h1
    have h2 : hi ≤ 10 ^ 50 := of_decide_eq_true h2
    obtain ⟨i, e, p⟩ := (RV.imm (T := T) (ρ := []) r).rng_inv (.inl h0)
    obtain ⟨p1, p2⟩ := rngP_in p h0
    exact ⟨i, e, Int.lt_of_lt_of_le h1 p1, Int.lt_of_lt_of_le p2 h2⟩
  · cases h
theorem cut_ok (T : Tab) (F : Fz) (H : Hp) (ds : List DV) (vs : List V) (h : dom ds = true) (r : RVs T F H ds vs) : ∃ ds', RVs T F H ds' vs ∧ isT (c__law_are_turns_right ds' [] kRet kExc) = true := by
  unfold dom at h
  split at h
  · rename_i a b d
    obtain ⟨h1, h2⟩ := He.ba h
    obtain ⟨p, hp, e⟩ := List.any_eq_true.mp h1
    obtain ⟨e1, e2⟩ := He.ba e
    have e1 := Nat.eq_of_beq_eq_true e1
    have e2 := Nat.eq_of_beq_eq_true e2
    subst e1 e2
    obtain ⟨hb, hc⟩ := chk_all p hp
    cases r with
    | cons r1 r => cases r with
      | cons r2 r => cases r with
        | cons r3 r => cases r with
          | nil =>
            obtain ⟨i, rfl, i1, i2⟩ := okMany_ok h2 r3
            have hm : 0 < ((p.2 - 1 : Nat) : Int) := by omega
            have q1 := Int.emod_nonneg i (Int.ne_of_gt hm)
            have q2 := Int.emod_lt_of_pos i hm
            have en : -(Int.negSucc (p.2 - 2)) = ((p.2 - 1 : Nat) : Int) := by rw [Int.neg_negSucc]; omega
            refine ⟨_, .cons r1 (.cons r2 (.cons (.rng (lo := .ofNat (i % ((p.2 - 1 : Nat) : Int)).toNat) (hi := .negSucc (p.2 - 2)) (.inr ⟨?_, Int.negSucc_lt_zero _, ?_, fun _ => ⟨i1, i2⟩⟩)) .nil)), hc _ (by omega)⟩
            · exact Int.le_trans (Int.le_of_lt (Int.negSucc_lt_zero _)) (Int.natCast_nonneg _)
            · rw [en, show Int.ofNat (i % ((p.2 - 1 : Nat) : Int)).toNat = i % ((p.2 - 1 : Nat) : Int) from Int.toNat_of_nonneg q1, Int.emod_emod]
  · cases h
theorem okc__law_are_turns_right {w : World} {K : PySem.W.Frag} {mg : Str → Option Value} (base : Heap) (V : EV w K mg) : FnG PP w K mg base "_law_are_turns_right" 9 3 (TT w K) (cutT dom) := (ok__law_are_turns_right base V).cut fun _ _ _ _ h => sp_cut (cut_ok (TT w K)) h
noncomputable def b__law_right : SCode := (sSeq (sAsg (eCall c__law_ring_slope (aCons (eVar (nat_lit 0)) (aCons (eC (.int (.ofNat (nat_lit 10)))) aNil))) (gTups (gConss (gVar (nat_lit 1)) (gConss (gVar (nat_lit 2)) gNils)))) (sSeq (sPar (nat_lit 3) (nat_lit 4) (aCons (eBin oSubR (eVar (nat_lit 2)) (eC (.int (.ofNat (nat_lit 1))))) (aCons (eBin (oAddR false) (eBin oPow (eC (.int (.ofNat (nat_lit 10)))) (eC (.int (.ofNat (nat_lit 40))))) (eCall (rollC (nat_lit 100)) (aCons (eVar (nat_lit 0)) (aCons (eC (.int (.ofNat (nat_lit 60)))) aNil)))) aNil))) (sSeq (sAsg (eL oLst (aCons (eCall (rollC (nat_lit 100)) (aCons (eVar (nat_lit 0)) (aCons (eVar (nat_lit 3)) aNil))) (aCons (eC (.int (.ofNat (nat_lit 1)))) (aCons (eVar (nat_lit 3)) (aCons (eBin oSubR (eC (.int (.ofNat (nat_lit 0)))) (eCall (rollC (nat_lit 100)) (aCons (eVar (nat_lit 0)) (aCons (eBin (oMulR false) (eC (.int (.ofNat (nat_lit 3)))) (eVar (nat_lit 3))) aNil)))) (aCons (eVar (nat_lit 4)) (aCons (eBin oSubR (eC (.int (.ofNat (nat_lit 0)))) (eVar (nat_lit 4))) aNil))))))) (gVar (nat_lit 5))) (sRet (eL oAll (aCons (eLc false (iValD (eVar (nat_lit 5))) [(nat_lit 6)] (gVar (nat_lit 6)) tYesC (eCall (cutT dom) (aCons (eVar (nat_lit 1)) (aCons (eVar (nat_lit 2)) (aCons (eVar (nat_lit 6)) aNil))))) aNil))))))
noncomputable def c__law_right : FCode := (fnC [none, none, none, none, none, none] b__law_right)
theorem sc__law_right : FnScope ["_law_dice_here", "_law_rises", "_law_steps", "_law_size", "_law_great", "_law_turns", "_law_many"] ["_law_dice_here"] (defScope S__law_right) := ⟨rfl, rfl, rfl, by decide +kernel, rfl, by decide +kernel, by decide +kernel⟩
theorem bo__law_right {w : World} {K : PySem.W.Frag} {mg : Str → Option Value} (base : Heap) (V : EV w K mg) : BodyOk PP w K mg base ["_law_dice_here", "_law_rises", "_law_steps", "_law_size", "_law_great", "_law_turns", "_law_many"] "_law_right" (defScope S__law_right) (TT w K) 9 (defBody S__law_right) b__law_right := fun f cdv A outer s H E x hr pa =>
  (sndss_cons (gasg (g_call x (hr.mono (by decide)) (ok__law_ring_slope base V) (ga1 gv (ga1 gI snda_nil))) (ggt x (ggs (ggv x (hx := .inr rfl) (hf := .inl rfl)) (ggs (ggv x (hx := .inr rfl) (hf := .inl rfl)) sndgs_nil)) (glen_cons (gthru_var _) (glen_cons (gthru_var _) glen_nil)))) (sndss_cons (gpar x (ga1 (snd_bin or_subR (gv (hv := .inr (.inl rfl))) gI) (ga1 (snd_bin (or_addR _) (snd_bin or_pow gI gI) (g_call x (hr.mono (by decide)) (okc__law_roll base V) (ga1 gv (ga1 gI snda_nil)))) snda_nil))) (sndss_cons (gset x (glst (ga1 (g_call x (hr.mono (by decide)) (okc__law_roll base V) (ga1 gv (ga1 gv snda_nil))) (ga1 gI (ga1 gv (ga1 (snd_bin or_subR gI (g_call x (hr.mono (by decide)) (okc__law_roll base V) (ga1 gv (ga1 (snd_bin (or_mulR _) gI gv) snda_nil)))) (ga1 gv (ga1 (snd_bin or_subR gI gv) snda_nil)))))))) (sndss_one (snds_ret (gB x (cb_all x.hc) (ga1 (glc [("_law_many", 6)] x (sndi_valD gv) (fun _ _ _ _ _ => (gbv x.b)) (fun _ _ _ _ _ => sndts_nil) (fun _ _ _ _ _ => (g_call x.b (hr.mono (by decide)) (okc__law_are_turns_right base V) (ga1 (gv (hv := .inr (.inl rfl))) (ga1 (gv (hv := .inr (.inl rfl))) (ga1 gv snda_nil)))))) snda_nil) (hv := bt_all)))))))
theorem ok__law_right {w : World} {K : PySem.W.Frag} {mg : Str → Option Value} (base : Heap) (V : EV w K mg) : FnG PP w K mg base "_law_right" 10 1 (TT w K) c__law_right := by
  obtain ⟨fd, F⟩ := V.c.def_ 48
  exact ⟨⟨_, fd, _, fn_pr F sc__law_right rfl (fre V) (bo__law_right base V) rfl rfl rfl, V.glo 75, F.kp, F.bindsN fun _ _ _ _ _ _ us hl => match us, hl with | [_], _ => rfl⟩⟩
noncomputable def b__law_dice : SCode := (sSeq (sAsg (eCellAt (nat_lit 0) (nat_lit 1) (eBin (oAddR false) (eBin (oMulR false) (eC (.int (.ofNat (nat_lit 97)))) (eVar (nat_lit 1))) (eC (.int (.ofNat (nat_lit 53)))))) (gVar (nat_lit 2))) (sSeq (sAsg (eBin oModR (eL oMax2R (aCons (eC (.int (.ofNat (nat_lit 0)))) (aCons (eBin oSubR (eL oAbsR (aCons (eVar (nat_lit 2)) aNil)) (eBin oPow (eC (.int (.ofNat (nat_lit 10)))) (eC (.int (.ofNat (nat_lit 16)))))) aNil))) (eBin (oMulR false) (eBin oPow (eC (.int (.ofNat (nat_lit 10)))) (eC (.int (.ofNat (nat_lit 60))))) (eBin oPow (eC (.int (.ofNat (nat_lit 10)))) (eC (.int (.ofNat (nat_lit 60))))))) (gVar (nat_lit 3))) (sRet (eL oCell (aCons (eVar (nat_lit 3)) (aCons (eBin (oAddR false) (eBin (oAddR false) (eBin (oAddR false) (eBin (oMulR false) (eBin oModR (eL oAbsR (aCons (eVar (nat_lit 2)) aNil)) (eC (.int (.ofNat (nat_lit 1152921504606846577))))) (eC (.int (.ofNat (nat_lit 67))))) (eBin (oMulR false) (eC (.int (.ofNat (nat_lit 773)))) (eVar (nat_lit 1)))) (eBin (oMulR false) (eC (.int (.ofNat (nat_lit 43)))) (eL oIntR (aCons (eBin oLtR (eVar (nat_lit 2)) (eC (.int (.ofNat (nat_lit 0))))) aNil)))) (eC (.int (.ofNat (nat_lit 11))))) (aCons (eC (.int (.ofNat (nat_lit 0)))) aNil)))))))
noncomputable def c__law_dice : FCode := (fnC [none, none] b__law_dice)
theorem sc__law_dice : FnScope ["_law_script", "_law_spot", "_law_cell", "_law_left"] ["_law_script", "_law_spot"] (defScope S__law_dice) := ⟨rfl, rfl, rfl, by decide +kernel, rfl, by decide +kernel, by decide +kernel⟩
theorem bo__law_dice {w : World} {K : PySem.W.Frag} {mg : Str → Option Value} (base : Heap) (V : EV w K mg) : BodyOk PP w K mg base ["_law_script", "_law_spot", "_law_cell", "_law_left"] "_law_dice" (defScope S__law_dice) (TT w K) 0 (defBody S__law_dice) b__law_dice := fun f cdv A outer s H E x hr pa =>
  (sndss_cons (gset x (gcat (fun _ _ h => h) x (snd_bin (or_addR _) (snd_bin (or_mulR _) gI gv) gI))) (sndss_cons (gset x (snd_bin or_modR (gB x (cb_max2R x.hc) (ga1 gI (ga1 (snd_bin or_subR (gB x cb_absR (ga1 gv snda_nil) (hv := bt_abs)) (snd_bin or_pow gI gI)) snda_nil)) (hv := bt_max)) (snd_bin (or_mulR _) (snd_bin or_pow gI gI) (snd_bin or_pow gI gI)))) (sndss_one (snds_ret (gcell (ga1 gv (ga1 (snd_bin (or_addR _) (snd_bin (or_addR _) (snd_bin (or_addR _) (snd_bin (or_mulR _) (snd_bin or_modR (gB x cb_absR (ga1 gv snda_nil) (hv := bt_abs)) gI) gI) (snd_bin (or_mulR _) gI gv)) (snd_bin (or_mulR _) gI (gTy x cb_intR (ga1 (gcmp (ol_ltR x) gv gI) snda_nil) (hv := bt_int)))) gI) (ga1 gI snda_nil))))))))
theorem ok__law_dice {w : World} {K : PySem.W.Frag} {mg : Str → Option Value} (base : Heap) (V : EV w K mg) : FnG PP w K mg base "_law_dice" 1 2 (TT w K) c__law_dice := by
  obtain ⟨fd, F⟩ := V.c.def_ 49
  exact ⟨⟨_, fd, _, fn_pr F sc__law_dice rfl (fre V) (bo__law_dice base V) rfl rfl rfl, V.glo 76, F.kp, F.bindsN fun _ _ _ _ _ _ us hl => match us, hl with | [_, _], _ => rfl⟩⟩
theorem kk_dice : allB (nat_lit 8) (fun n => diceOk c__law_dice n) = true := by decide +kernel
theorem okc__law_dice {w : World} {K : PySem.W.Frag} {mg : Str → Option Value} (base : Heap) (V : EV w K mg) : FnG PP w K mg base "_law_dice" 1 2 (TT w K) (diceC (nat_lit 8)) := (ok__law_dice base V).cut fun _ _ _ _ h => sp_dice (allB_ok kk_dice) h
noncomputable def b_law : SCode := (sSeq (sFor (iRng1 (aCons (eSplit (eL oMax2R (aCons (eC (.int (.ofNat (nat_lit 1)))) (aCons (eL oMin2R (aCons (eC (.int (.ofNat (nat_lit 2)))) (aCons (eL oLenR (aCons (eVar (nat_lit 0)) aNil)) aNil))) aNil)))) aNil)) (gVar (nat_lit 1)) (sIf (tNot (tVal (eCall c__law_right (aCons (eCall (diceC (nat_lit 8)) (aCons (eVar (nat_lit 0)) (aCons (eVar (nat_lit 1)) aNil))) aNil)))) (sRet (eC (.bl false))) sPass)) (sSeq (sAsg (eMake (nat_lit 0) [none, none, none] c_m_Slope___init__ (aCons (eC (.int (.ofNat (nat_lit 2)))) (aCons (eC (.int (.ofNat (nat_lit 5)))) aNil))) (gVar (nat_lit 2))) (sSeq (sAsg (eLc false (iRng1 (aCons (eSplit (eC (.int (.ofNat (nat_lit 5))))) aNil)) [(nat_lit 4)] (gVar (nat_lit 4)) tYesC (eCall c_kept (aCons (eVar (nat_lit 2)) (aCons (eVar (nat_lit 4)) aNil)))) (gVar (nat_lit 3))) (sRet (eAnd (eBin oEq (eVar (nat_lit 3)) (eL oLst (aCons (eC (.int (.ofNat (nat_lit 3)))) (aCons (eC (.int (.ofNat (nat_lit 1)))) (aCons (eC (.int (.ofNat (nat_lit 3)))) (aCons (eC (.int (.ofNat (nat_lit 1)))) (aCons (eC (.int (.ofNat (nat_lit 3)))) aNil))))))) (eAnd (eBin oEq (eAttr [] (((nat_lit 1), c_m_Way_text) :: []) (eCall c_turned_way (aCons (eMake (nat_lit 1) [none, none, none] c_m_Way___init__ (aCons (eVar (nat_lit 2)) (aCons (eC (.str [nat_lit 114, nat_lit 115, nat_lit 114, nat_lit 115, nat_lit 115, nat_lit 115, nat_lit 115])) aNil))) (aCons (eC (.int (.ofNat (nat_lit 1)))) aNil)))) (eC (.str [nat_lit 114, nat_lit 115, nat_lit 115, nat_lit 114, nat_lit 115, nat_lit 115, nat_lit 115]))) (eBin oEq (eCall c_kept (aCons (eMake (nat_lit 0) [none, none, none] c_m_Slope___init__ (aCons (eC (.int (.ofNat (nat_lit 19)))) (aCons (eC (.int (.ofNat (nat_lit 20)))) aNil))) (aCons (eC (.int (.ofNat (nat_lit 19)))) aNil))) (eC (.int (.ofNat (nat_lit 1767263190)))))))))))
noncomputable def c_law : FCode := pureF (fnC [none, none, none, none] b_law)
theorem sc_law : FnScope ["_law_script", "_law_spot", "_law_slope_here", "_law_told", "_law_many"] ["_law_script"] (defScope S_law) := ⟨rfl, rfl, rfl, by decide +kernel, rfl, by decide +kernel, by decide +kernel⟩
theorem bo_law {w : World} {K : PySem.W.Frag} {mg : Str → Option Value} (base : Heap) (V : EV w K mg) : BodyOk PP w K mg base ["_law_script", "_law_spot", "_law_slope_here", "_law_told", "_law_many"] "law" (defScope S_law) (TT w K) 10 (defBody S_law) b_law := fun f cdv A outer s H E x hr pa =>
  (sndss_cons (gfor x pa (grng1 x (ga1 (snd_split (gB x (cb_max2R x.hc) (ga1 gI (ga1 (gB x (cb_min2R x.hc) (ga1 gI (ga1 (gB x (cb_lenR (fun _ _ h => h)) (ga1 gv snda_nil) (hv := bt_len)) snda_nil)) (hv := bt_min)) snda_nil)) (hv := bt_max))) snda_nil)) (ggv x) (sndss_one (snds_if (sndt_not (gtv (g_call x (hr.mono (by decide)) (ok__law_right base V) (ga1 (g_call x (hr.mono (by decide)) (okc__law_dice base V) (ga1 gv (ga1 gv snda_nil))) snda_nil)))) (sndss_one (snds_ret gBl)) sndss_nil))) (sndss_cons (gset x (gmk 0 2 x ((ok_m_Slope___init__ base V).at (hr.mono (by decide))) (gc_Slope V) (ga1 gI (ga1 gI snda_nil))) (hx := .inr rfl) (hf := .inl rfl)) (sndss_cons (gsetlc [("_law_many", 4)] x (grng1 x (ga1 (snd_split gI) snda_nil)) (fun _ _ _ _ _ => (gbv x.b)) (fun _ _ _ _ _ => sndts_nil) (fun _ _ _ _ _ => (g_call x.b (hr.mono (by decide)) (ok_kept base V) (ga1 (gv (hv := .inr (.inl rfl))) (ga1 gv snda_nil))))) (sndss_one (snds_ret (snd_and (gcmp (ol_eq x) gv (glst (ga1 gI (ga1 gI (ga1 gI (ga1 gI (ga1 gI snda_nil))))))) (snd_and (gcmp (ol_eq x) (gattr (g_call x (hr.mono (by decide)) (ok_turned_way base V) (ga1 (gmk 1 2 x ((ok_m_Way___init__ base V).at (hr.mono (by decide))) (gc_Way V) (ga1 (gv (hv := .inr (.inl rfl))) (ga1 gS snda_nil))) (ga1 gI snda_nil))) tbn (tbc ((ok_m_Way_text base V).at (hr.mono (by decide))) tbn)) gS) (snd_one (gcmp (ol_eq x) (g_call x (hr.mono (by decide)) (ok_kept base V) (ga1 (gmk 0 2 x ((ok_m_Slope___init__ base V).at (hr.mono (by decide))) (gc_Slope V) (ga1 gI (ga1 gI snda_nil))) (ga1 gI snda_nil))) gI)))))))))
theorem ok_law {w : World} {K : PySem.W.Frag} {mg : Str → Option Value} (base : Heap) (V : EV w K mg) : FnG PP w K mg base "law" 11 1 (TT w K) c_law := by
  obtain ⟨fd, F⟩ := V.c.def_ 50
  exact ⟨⟨_, fd, _, (fn_pr F sc_law rfl (fre V) (bo_law base V) rfl rfl rfl).imp fun _ _ _ _ q => sp_pure q, V.glo 77, F.kp, F.bindsN fun _ _ _ _ _ _ us hl => match us, hl with | [_], _ => rfl⟩⟩
theorem kk_law : isT (c_law [.rng (.ofNat 0) (.ofNat 0)] [] kRet kExc) = true := by decide +kernel
theorem facts {w : World} {K : PySem.W.Frag} {h : Heap} {mg : Str → Option Value} {f : Addr} (X : K.In h) (G : h.Ns mainGlobals mg) (hfa : mg (Str.ofString "law") = some (.ref f)) (c : SaysY fa fy fn K) :
    ∃ fd : FuncData, (∀ (s : Shared) (v : Value), BindsTo s fd ⟨[v], []⟩ [(Str.ofString "_law_script", v)]) ∧ ∀ base : Heap, K.In base → base.Ns mainGlobals mg → FnOk PP w K mg base L2.CX0 11 f fd [Str.ofString "_law_script"] (spLaw K) := by
  have V : EV w K mg := ⟨⟨h, X, G⟩, c⟩
  obtain ⟨fd, F⟩ := V.c.def_ 50
  have e := hfa.symm.trans (V.glo 77)
  cases e
  have b := FunD.bindsA (ps := [Str.ofString "_law_script"]) F fun _ _ _ _ _ _ us hl => match us, hl with | [_], _ => rfl
  exact ⟨fd, fun s v => b s [v] rfl, fun base _ _ => law_end ((fn_pr F sc_law rfl (fre V) (bo_law base V) rfl rfl rfl).imp fun _ _ _ _ q => sp_pure q) (fun _ _ h => h) kk_law⟩
end Lw
open PySem PySem.W PySem.Calls PyProof.Rows
theorem PySem.Challenge.cw_slantways_k80_whole_turns_of_partings_holds : PySem.Challenge.rw_slantways_k80_whole_turns_of_partings.Holds := by
  w_on; o_law
  refine HandSHeadRun.head_imp (r := OpenLaw.row PySem.Challenge.rw_slantways_k80_whole_turns_of_partings) (q := view (OpenLaw.row PySem.Challenge.rw_slantways_k80_whole_turns_of_partings).prog [0, 63]) (H := Lw.hk) (ob := Lw.ob) (M := 20000) (loose := Lw.loose) (d := HandSHeadRun.topDef (OpenLaw.row PySem.Challenge.rw_slantways_k80_whole_turns_of_partings).prog 63) (kwd := []) Lw.ob_eq
    Lw.run (by kernel_rfl) (by kernel_rfl) (by kernel_rfl) (by rfl) (by first | assumption | decide +kernel) (by decide +kernel) ⟨rfl, rfl, rfl, rfl, rfl, by decide +kernel⟩ ?hw ?hc
  case hw => w_witness2
  case hc =>
    refine L2.walk_ofE (l := PySem.Challenge.rw_slantways_k80_whole_turns_of_partings) (n := 63) (k := 11) (x := "_law_script") (CX := L2.CX0) rfl (by decide) (by kernel_rfl) ⟨rfl, by decide, by decide⟩ ?F (fun _ _ _ _ z => z)
    intro w mg fa h Y G hmg0
    obtain ⟨K, KX, c⟩ := Y
    have hmg : mg ("law" : PySem.Str) = some (.ref fa) := by
      have e : (HandSHeadRun.topDef (OpenLaw.row PySem.Challenge.rw_slantways_k80_whole_turns_of_partings).prog 63).name = ("law" : PySem.Str) := by kernel_rfl
      rw [← e]
      exact hmg0
    obtain ⟨fd, hb, hF⟩ := Lw.facts (w := w) KX G hmg c
    exact ⟨K, fd, SW.spLaw K, KX, hb, fun H a ns hl hO hS => ⟨a, ns, rfl, hl, hO, hS, fun _ => rfl⟩, hF⟩
