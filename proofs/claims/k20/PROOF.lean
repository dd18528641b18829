import PyProof.Rows.All
import Wide.All
import OpenK.AllK
import Wide.FinOn
import KE.KStateDown
import HandS.ForMost
import HandS.Exc
import HandS.ExcOwn
import HandS.WordsExc
import HandS.Defaults
import HandS.Deep
import HandS.TupAny
import HandS.TupMul
import HandS.Wide
import HandS.Style
import HandS.IsInst
import KE.SortData
import HandS.ExcValue
import HandS.Zip
import HandS.HeadHook1
import HandS.Codes
import HandS.Head0
import HandS.Head1
import HandS.Head2
import HandS.HeadEnd
import HandS.HeadHook2
import HandS.HeadHook4
import KE.Datum
import PySem.Challenge.RW_lotcolours_k20_whole_colours
set_option Elab.async false
set_option linter.all false
set_option maxRecDepth 100000
set_option autoImplicit false
/-! LC1: a small language with slots, its values, its evaluator. -/
namespace LC
open PySem

/-! ### values -/
inductive D where
  | non | bl (b : Bool) | int (i : Int) | str (x : Str) | tup (xs : List D) | lst (xs : List D) | cell (n : Nat) | fn (x : Str) | exc (x : Str) | ty (n : String)
inductive Cell where
  | lst (xs : List D)
  | dI (kvs : List (Int × D))
  | dT (kvs : List (List Int × D))
  | ins (c : Str) (fs : List (Str × D))
abbrev Store := List Cell
inductive R (α : Type) where
  | ok (a : α) (S : Store)
  | exc (x : Str) (S : Store)
  | bad
abbrev M (α : Type) := Store → R α
abbrev Env := List (Option D)
def M.pure {α : Type} (a : α) : M α := fun S => .ok a S
def M.bad {α : Type} : M α := fun _ => .bad
def R.bind {α β : Type} (r : R α) (f : α → M β) : R β := match r with
  | .ok a S => f a S
  | .exc x S => .exc x S
  | .bad => .bad
def M.bind {α β : Type} (m : M α) (f : α → M β) : M β := fun S => (m S).bind f
/-- a value that may not be there -/
def M.opt {α : Type} : Option α → M α
  | some a => M.pure a
  | none => M.bad
@[simp] theorem R.bind_ok {α β : Type} (a : α) (S : Store) (f : α → M β) : (R.ok a S).bind f = f a S := rfl
@[simp] theorem R.bind_exc {α β : Type} (x : Str) (S : Store) (f : α → M β) : (R.exc x S : R α).bind f = .exc x S := rfl
@[simp] theorem R.bind_bad {α β : Type} (f : α → M β) : (R.bad : R α).bind f = .bad := rfl
@[simp] theorem M.bind_ap {α β : Type} (m : M α) (f : α → M β) (S : Store) : M.bind m f S = (m S).bind f := rfl
@[simp] theorem M.pure_ap {α : Type} (a : α) (S : Store) : M.pure a S = .ok a S := rfl
@[simp] theorem M.bad_ap {α : Type} (S : Store) : (M.bad : M α) S = .bad := rfl
@[simp] theorem M.opt_some {α : Type} (a : α) (S : Store) : M.opt (some a) S = .ok a S := rfl
@[simp] theorem M.opt_none {α : Type} (S : Store) : M.opt (none : Option α) S = .bad := rfl

/-! ### shapes, equality -/
mutual
def D.sh : D → Nat → Bool
  | .tup xs, n + 1 => D.shA xs n
  | .lst xs, n + 1 => D.shA xs n
  | .tup _, 0 => false
  | .lst _, 0 => false
  | .non, _ => true
  | .bl _, _ => true
  | .int _, _ => true
  | .str x, _ => PyData.strOk x
  | .cell _, _ => false
  | .fn _, _ => false
  | .exc _, _ => false
  | .ty _, _ => false
def D.shA : List D → Nat → Bool
  | [], _ => true
  | d :: ds, n => D.sh d n && D.shA ds n
end
mutual
def D.pd : D → PyData
  | .tup xs => .tuple (D.pdA xs)
  | .lst xs => .list (D.pdA xs)
  | .non => .none
  | .bl b => .bool b
  | .int i => .int i
  | .str x => .str x
  | .cell _ => .none
  | .fn _ => .none
  | .exc _ => .none
  | .ty _ => .none
def D.pdA : List D → List PyData
  | [] => []
  | d :: ds => D.pd d :: D.pdA ds
end
def D.eqb (a b : D) : Bool := PyData.eqv a.pd b.pd
def D.eqbA (a b : List D) : Bool := PyData.eqvAll (D.pdA a) (D.pdA b)
/-- the ints of a list that holds nothing else -/
def intsOf : List D → Option (List Int)
  | [] => some []
  | .int i :: r => (intsOf r).map (i :: ·)
  | _ :: _ => none
def blsOf : List D → Option (List Bool)
  | [] => some []
  | .bl b :: r => (blsOf r).map (b :: ·)
  | _ :: _ => none
/-- a list, read: one that stands in a cell too -/
def vwc (n : Nat) : Option Cell → D
  | some (.lst xs) => .lst xs
  | _ => .cell n
def vw (S : Store) : D → D
  | .cell n => vwc n S[n]?
  | d => d
def line : Nat := 16777216

/-! ### operations -/
def binD : Operator → D → D → Option D
  | .Add, .int a, .int b => some (.int (a + b))
  | .Sub, .int a, .int b => some (.int (a - b))
  | .Mult, .int a, .int b => if a.natAbs.log2 + b.natAbs.log2 < 1000000 then some (.int (a * b)) else none
  | .FloorDiv, .int a, .int b => if b ≠ 0 ∧ b.natAbs < 1073741824 ∨ 0 < b ∧ b.natAbs.log2 < 9000 then some (.int (a.fdiv b)) else none
  | .Mod, .int a, .int b => if b ≠ 0 then some (.int (a.fmod b)) else none
  | .Pow, .int a, .int b => if 0 ≤ b ∧ b ≤ 1000000 ∧ a.natAbs < 18446744073709551616 then some (.int (a ^ b.toNat)) else none
  | .Add, .tup a, .tup b => if a.length + b.length ≤ line then some (.tup (a ++ b)) else none
  | .Add, .lst a, .lst b => if a.length + b.length ≤ line then some (.lst (a ++ b)) else none
  | .Add, .str a, .str b => if a.length + b.length ≤ line then some (.str (a ++ b)) else none
  | .Mult, .tup a, .int k => if -1000 ≤ k ∧ k ≤ 1000 ∧ a ≠ [] ∧ a.length ≤ 1000 then some (.tup (List.replicate k.toNat a).flatten) else none
  | .Mult, .lst a, .int k => if -1000 ≤ k ∧ k ≤ 1000 ∧ a.length ≤ 1000 then some (.lst (List.replicate k.toNat a).flatten) else none
  | _, _, _ => none
def isNon : D → Bool
  | .non => true
  | _ => false
def cmpD : CmpOp → D → D → Option Bool
  | .Lt, .int a, .int b => some (decide (a < b))
  | .LtE, .int a, .int b => some (decide (a ≤ b))
  | .Gt, .int a, .int b => some (decide (b < a))
  | .GtE, .int a, .int b => some (decide (b ≤ a))
  | .Lt, .tup a, .tup b => match intsOf a, intsOf b with
    | some x, some y => some (HT.lexLt x y)
    | _, _ => none
  | .Eq, a, b => if a.sh 60 && b.sh 60 then some (a.eqb b) else none
  | .NotEq, a, b => if a.sh 60 && b.sh 60 then some (!a.eqb b) else none
  | .Is, .bl a, .bl b => some (decide (a = b))
  | .IsNot, .bl a, .bl b => some (!decide (a = b))
  | .Is, a, .non => some (isNon a)
  | .IsNot, a, .non => some (!isNon a)
  | .In, a, .lst xs => if a.sh 60 && D.shA xs 58 then some (xs.any fun x => x.eqb a) else none
  | .NotIn, a, .lst xs => if a.sh 60 && D.shA xs 58 then some (!xs.any fun x => x.eqb a) else none
  | .In, a, .tup xs => if a.sh 60 && D.shA xs 58 then some (xs.any fun x => x.eqb a) else none
  | .NotIn, a, .tup xs => if a.sh 60 && D.shA xs 58 then some (!xs.any fun x => x.eqb a) else none
  | _, _, _ => none
def seqOf : D → Option (List D)
  | .tup xs => some xs
  | .lst xs => some xs
  | _ => none
def idxD : D → D → Option D
  | .tup xs, .int i => L2.atI xs i
  | .lst xs, .int i => L2.atI xs i
  | _, _ => none
def cutD (xs : List D) (lo hi : Option Int) : List D := (xs.drop (HT.sIx xs.length 0 lo)).take (HT.sIx xs.length xs.length hi - HT.sIx xs.length 0 lo)
end LC

/-! LC2: the values of the small language against the abstract heap. -/
namespace LC
open PySem PySem.Spec PyProof.Rows L2

/-- a list of the written part -/
def Wr (K : PySem.W.Frag) (a : Addr) (xs : List V) : Prop :=
  ∃ (o : Obj) (its : Array Value) (n : Nat), K.lookup a = some o ∧ o.cls = .type "list" ∧ o.dict = none ∧ o.data = .seq its n ∧ its.size ≤ sizeLine ∧ Vals xs its.toList
/-- where one stands: the written part, the module's names; the cells' addresses; the addresses that no value leads to -/
structure At where
  K : PySem.W.Frag
  mg : Str → Option Value
  m : List Addr
  E : Addr → Prop
  H : Hp
def At.rd (a : At) (p : Addr) (vs : List V) : Prop := (p ∉ a.m ∧ ¬ a.E p ∧ Rd a.H p (.lst vs)) ∨ Wr a.K p vs
mutual
def Rel (A : At) : D → V → Prop
  | .non, v => v = .non
  | .bl b, v => v = .bl b
  | .int i, v => v = .int i
  | .str x, v => v = .str x
  | .tup ds, v => ∃ p vs, v = .ref p ∧ A.H p = some (.tup vs) ∧ ds.length ≤ sizeLine ∧ RelL A ds vs
  | .lst ds, v => ∃ p vs, v = .ref p ∧ A.rd p vs ∧ ds.length ≤ sizeLine ∧ RelL A ds vs
  | .cell n, v => ∃ p, A.m[n]? = some p ∧ v = .ref p
  | .fn x, v => ∃ p, A.mg x = some (.ref p) ∧ v = .ref p
  | .exc x, v => False
  | .ty n, v => v = .ty n
def RelL (A : At) : List D → List V → Prop
  | [], vs => vs = []
  | d :: ds, vs => ∃ v r, vs = v :: r ∧ Rel A d v ∧ RelL A ds r
end
/-- how the heap may go on -/
structure Stp (A B : At) : Prop where
  K : B.K = A.K
  mg : B.mg = A.mg
  pre : ∀ (n : Nat) (p : Addr), A.m[n]? = some p → B.m[n]? = some p
  rd : ∀ p vs, A.rd p vs → B.rd p vs
  tp : ∀ p vs, A.H p = some (.tup vs) → B.H p = some (.tup vs)
mutual
theorem Rel.step {A B : At} (s : Stp A B) : ∀ (d : D) (v : V), Rel A d v → Rel B d v
  | .non, v, h => h
  | .bl _, v, h => h
  | .int _, v, h => h
  | .str _, v, h => h
  | .tup ds, v, h => by
    obtain ⟨p, vs, e, h1, h2, h3⟩ := h
    exact ⟨p, vs, e, s.tp _ _ h1, h2, RelL.step s ds vs h3⟩
  | .lst ds, v, h => by
    obtain ⟨p, vs, e, h1, h2, h3⟩ := h
    exact ⟨p, vs, e, s.rd _ _ h1, h2, RelL.step s ds vs h3⟩
  | .cell n, v, h => by
    obtain ⟨p, h1, e⟩ := h
    exact ⟨p, s.pre _ _ h1, e⟩
  | .fn x, v, h => by
    obtain ⟨p, h1, e⟩ := h
    exact ⟨p, by rw [s.mg]; exact h1, e⟩
  | .exc x, v, h => h
  | .ty x, v, h => h
theorem RelL.step {A B : At} (s : Stp A B) : ∀ (ds : List D) (vs : List V), RelL A ds vs → RelL B ds vs
  | [], vs, h => h
  | d :: ds, vs, h => by
    obtain ⟨v, r, e, h1, h2⟩ := h
    exact ⟨v, r, e, Rel.step s d v h1, RelL.step s ds r h2⟩
end
theorem RelL.len {A : At} : ∀ {ds : List D} {vs : List V}, RelL A ds vs → vs.length = ds.length
  | [], vs, h => by rw [show vs = [] from h]; rfl
  | d :: ds, vs, h => by
    obtain ⟨v, r, rfl, h1, h2⟩ := h
    rw [List.length_cons, List.length_cons, RelL.len h2]
theorem RelL.get {A : At} : ∀ {ds : List D} {vs : List V} {i : Nat} {d : D}, RelL A ds vs → ds[i]? = some d → ∃ v, vs[i]? = some v ∧ Rel A d v
  | [], vs, i, d, h, e => by simp at e
  | d₀ :: ds, vs, 0, d, h, e => by
    obtain ⟨v, r, rfl, h1, h2⟩ := h
    simp at e
    subst e
    exact ⟨v, rfl, h1⟩
  | d₀ :: ds, vs, i + 1, d, h, e => by
    obtain ⟨v, r, rfl, h1, h2⟩ := h
    exact RelL.get (i := i) h2 e
theorem RelL.getV {A : At} : ∀ {ds : List D} {vs : List V} {i : Nat} {v : V}, RelL A ds vs → vs[i]? = some v → ∃ d, ds[i]? = some d ∧ Rel A d v
  | [], vs, i, d, h, e => by rw [show vs = [] from h] at e; simp at e
  | d₀ :: ds, vs, 0, v, h, e => by
    obtain ⟨w, r, rfl, h1, h2⟩ := h
    simp at e
    subst e
    exact ⟨d₀, rfl, h1⟩
  | d₀ :: ds, vs, i + 1, v, h, e => by
    obtain ⟨w, r, rfl, h1, h2⟩ := h
    exact RelL.getV (i := i) h2 e
theorem RelL.append {A : At} : ∀ {ds es : List D} {vs ws : List V}, RelL A ds vs → RelL A es ws → RelL A (ds ++ es) (vs ++ ws)
  | [], es, vs, ws, h, h' => by rw [show vs = [] from h]; exact h'
  | d :: ds, es, vs, ws, h, h' => by
    obtain ⟨v, r, rfl, h1, h2⟩ := h
    exact ⟨v, r ++ ws, rfl, h1, RelL.append h2 h'⟩
theorem RelL.nil {A : At} : RelL A [] [] := rfl
theorem RelL.cons {A : At} {d : D} {v : V} {ds : List D} {vs : List V} (h : Rel A d v) (h' : RelL A ds vs) : RelL A (d :: ds) (v :: vs) := ⟨v, vs, rfl, h, h'⟩
theorem RelL.one {A : At} {d : D} {v : V} (h : Rel A d v) : RelL A [d] [v] := .cons h .nil
theorem RelL.drop {A : At} : ∀ (n : Nat) {ds : List D} {vs : List V}, RelL A ds vs → RelL A (ds.drop n) (vs.drop n)
  | 0, ds, vs, h => h
  | n + 1, [], vs, h => by rw [show vs = [] from h]; exact .nil
  | n + 1, d :: ds, vs, h => by
    obtain ⟨v, r, rfl, h1, h2⟩ := h
    exact RelL.drop n h2
theorem RelL.take {A : At} : ∀ (n : Nat) {ds : List D} {vs : List V}, RelL A ds vs → RelL A (ds.take n) (vs.take n)
  | 0, ds, vs, h => by
    rw [List.take_zero, List.take_zero]
    exact .nil
  | n + 1, [], vs, h => by rw [show vs = [] from h]; exact .nil
  | n + 1, d :: ds, vs, h => by
    obtain ⟨v, r, rfl, h1, h2⟩ := h
    exact .cons h1 (RelL.take n h2)
theorem RelL.rep {A : At} {ds : List D} {vs : List V} (h : RelL A ds vs) : ∀ k : Nat, RelL A (List.replicate k ds).flatten (List.replicate k vs).flatten
  | 0 => .nil
  | k + 1 => by
    rw [List.replicate_succ, List.replicate_succ, List.flatten_cons, List.flatten_cons]
    exact h.append (RelL.rep h k)
theorem RelL.ints {A : At} : ∀ {ds : List D} {vs : List V} {ns : List Int}, RelL A ds vs → intsOf ds = some ns → vs = ns.map V.int
  | [], vs, ns, h, e => by
    cases e
    exact h
  | .int i :: ds, vs, ns, h, e => by
    obtain ⟨v, r, rfl, h1, h2⟩ := h
    unfold intsOf at e
    cases q : intsOf ds with
    | none => rw [q] at e; cases e
    | some ms =>
      rw [q] at e
      cases e
      rw [RelL.ints h2 q, show v = V.int i from h1]
      rfl
  | .non :: _, _, _, _, e => by cases e
  | .bl _ :: _, _, _, _, e => by cases e
  | .str _ :: _, _, _, _, e => by cases e
  | .tup _ :: _, _, _, _, e => by cases e
  | .lst _ :: _, _, _, _, e => by cases e
  | .cell _ :: _, _, _, _, e => by cases e
  | .fn _ :: _, _, _, _, e => by cases e
  | .exc _ :: _, _, _, _, e => by cases e
  | .ty _ :: _, _, _, _, e => by cases e
theorem RelL.bls {A : At} : ∀ {ds : List D} {vs : List V} {ns : List Bool}, RelL A ds vs → blsOf ds = some ns → vs = ns.map V.bl
  | [], vs, ns, h, e => by
    cases e
    exact h
  | .bl i :: ds, vs, ns, h, e => by
    obtain ⟨v, r, rfl, h1, h2⟩ := h
    unfold blsOf at e
    cases q : blsOf ds with
    | none => rw [q] at e; cases e
    | some ms =>
      rw [q] at e
      cases e
      rw [RelL.bls h2 q, show v = V.bl i from h1]
      rfl
  | .non :: _, _, _, _, e => by cases e
  | .int _ :: _, _, _, _, e => by cases e
  | .str _ :: _, _, _, _, e => by cases e
  | .tup _ :: _, _, _, _, e => by cases e
  | .lst _ :: _, _, _, _, e => by cases e
  | .cell _ :: _, _, _, _, e => by cases e
  | .fn _ :: _, _, _, _, e => by cases e
  | .exc _ :: _, _, _, _, e => by cases e
  | .ty _ :: _, _, _, _, e => by cases e
theorem At.rd.sq {A : At} {p : Addr} {vs : List V} (h : A.rd p vs) : SqL A.K A.H p vs := by
  rcases h with ⟨_, _, h⟩ | h
  · exact .inl h
  · exact .inr h
/-! ### shapes -/
mutual
theorem sh_can : ∀ (d : D) (n : Nat), d.sh n = true → d.pd.canLay0 = true ∧ d.pd.depth ≤ n
  | .tup xs, n + 1, h => by
    obtain ⟨a, b⟩ := shA_can xs n h
    exact ⟨a, Nat.succ_le_succ b⟩
  | .lst xs, n + 1, h => by
    obtain ⟨a, b⟩ := shA_can xs n h
    exact ⟨a, Nat.succ_le_succ b⟩
  | .tup _, 0, h => by cases h
  | .lst _, 0, h => by cases h
  | .non, _, h => ⟨rfl, Nat.zero_le _⟩
  | .bl _, _, h => ⟨rfl, Nat.zero_le _⟩
  | .int _, _, h => ⟨rfl, Nat.zero_le _⟩
  | .str x, _, h => ⟨h, Nat.zero_le _⟩
  | .cell _, _, h => by cases h
  | .fn _, _, h => by cases h
  | .exc _, _, h => by cases h
  | .ty _, _, h => by cases h
theorem shA_can : ∀ (ds : List D) (n : Nat), D.shA ds n = true → PyData.canLayAll0 (D.pdA ds) = true ∧ PyData.depthAll (D.pdA ds) ≤ n
  | [], n, h => ⟨rfl, Nat.zero_le _⟩
  | d :: ds, n, h => by
    have h' : (D.sh d n && D.shA ds n) = true := h
    obtain ⟨h1, h2⟩ := Bool.and_eq_true_iff.mp h'
    obtain ⟨a, b⟩ := sh_can d n h1
    obtain ⟨a', b'⟩ := shA_can ds n h2
    refine ⟨?_, Nat.max_le.mpr ⟨b, b'⟩⟩
    show (PyData.canLay0 d.pd && PyData.canLayAll0 (D.pdA ds)) = true
    rw [a, a']
    rfl
end
theorem sh_shaped {d : D} {n : Nat} (h : d.sh n = true) (hn : n ≤ 64) : SeqAt.shaped d.pd = true := by
  obtain ⟨a, b⟩ := sh_can d n h
  unfold SeqAt.shaped
  rw [a, decide_eq_true (Nat.le_trans b hn)]
  rfl
mutual
theorem Rel.dp {A : At} : ∀ (d : D) (v : V) (n : Nat), d.sh n = true → Rel A d v → Dp A.K A.H v d.pd
  | .tup xs, v, n + 1, h, r => by
    obtain ⟨p, vs, rfl, h1, h2, h3⟩ := r
    exact .tup (SqT.of h1) (RelL.dp xs vs n h h3)
  | .lst xs, v, n + 1, h, r => by
    obtain ⟨p, vs, rfl, h1, h2, h3⟩ := r
    exact .lst h1.sq (RelL.dp xs vs n h h3)
  | .tup _, _, 0, h, _ => by cases h
  | .lst _, _, 0, h, _ => by cases h
  | .non, v, _, h, r => by rw [show v = V.non from r]; exact .non
  | .bl b, v, _, h, r => by rw [show v = V.bl b from r]; exact .bl b
  | .int b, v, _, h, r => by rw [show v = V.int b from r]; exact .int b
  | .str b, v, _, h, r => by rw [show v = V.str b from r]; exact .str b
  | .cell _, _, _, h, _ => by cases h
  | .fn _, _, _, h, _ => by cases h
  | .exc _, _, _, h, _ => by cases h
  | .ty _, _, _, h, _ => by cases h
theorem RelL.dp {A : At} : ∀ (ds : List D) (vs : List V) (n : Nat), D.shA ds n = true → RelL A ds vs → DpAll A.K A.H vs (D.pdA ds)
  | [], vs, n, h, r => by rw [show vs = [] from r]; exact .nil
  | d :: ds, vs, n, h, r => by
    obtain ⟨v, q, rfl, h1, h2⟩ := r
    obtain ⟨a, b⟩ := Bool.and_eq_true_iff.mp (show (D.sh d n && D.shA ds n) = true from h)
    exact .cons (Rel.dp d v n a h1) (RelL.dp ds q n b h2)
end
theorem pdA_map : ∀ ds : List D, D.pdA ds = ds.map D.pd
  | [] => rfl
  | d :: ds => by
    show D.pd d :: D.pdA ds = _
    rw [pdA_map ds]
    rfl

/-! ### the cells -/
def FldR (A : At) : List (Str × D) → List (Str × V) → Prop
  | [], fs => fs = []
  | (x, d) :: r, fs => ∃ v q, fs = (x, v) :: q ∧ Rel A d v ∧ FldR A r q
theorem FldR.step {A B : At} (s : Stp A B) : ∀ {ds : List (Str × D)} {fs : List (Str × V)}, FldR A ds fs → FldR B ds fs
  | [], _, h => h
  | (x, d) :: r, fs, h => by
    obtain ⟨v, q, e, h1, h2⟩ := h
    exact ⟨v, q, e, Rel.step s d v h1, FldR.step s h2⟩
def DiR (A : At) : List (Int × D) → List (Key × V) → Prop
  | [], fs => fs = []
  | (x, d) :: r, fs => ∃ v q, fs = (Sum.inl x, v) :: q ∧ Rel A d v ∧ DiR A r q
theorem DiR.step {A B : At} (s : Stp A B) : ∀ {ds : List (Int × D)} {fs : List (Key × V)}, DiR A ds fs → DiR B ds fs
  | [], _, h => h
  | (x, d) :: r, fs, h => by
    obtain ⟨v, q, e, h1, h2⟩ := h
    exact ⟨v, q, e, Rel.step s d v h1, DiR.step s h2⟩
def DtR (A : At) : List (List Int × D) → List (List Key × V) → Prop
  | [], fs => fs = []
  | (x, d) :: r, fs => ∃ v q, fs = (x.map Sum.inl, v) :: q ∧ Rel A d v ∧ DtR A r q
theorem DtR.step {A B : At} (s : Stp A B) : ∀ {ds : List (List Int × D)} {fs : List (List Key × V)}, DtR A ds fs → DtR B ds fs
  | [], _, h => h
  | (x, d) :: r, fs, h => by
    obtain ⟨v, q, e, h1, h2⟩ := h
    exact ⟨v, q, e, Rel.step s d v h1, DtR.step s h2⟩
def CellR (A : At) : Cell → Option HO → Prop
  | .lst ds, o => ∃ vs, o = some (.lst vs) ∧ ds.length ≤ sizeLine ∧ RelL A ds vs
  | .dI kvs, o => ∃ es, o = some (.dK es) ∧ kvs.length ≤ sizeLine ∧ DiR A kvs es
  | .dT kvs, o => ∃ es, o = some (.dT es) ∧ kvs.length ≤ sizeLine ∧ DtR A kvs es
  | .ins c fs, o => ∃ C dx gs, o = some (.ins C dx gs) ∧ A.mg c = some (.ref C) ∧ fs.length < 1000 ∧ FldR A fs gs
theorem CellR.step {A B : At} (s : Stp A B) : ∀ {c : Cell} {o : Option HO}, CellR A c o → CellR B c o
  | .lst ds, o, h => by
    obtain ⟨vs, e, z, r⟩ := h
    exact ⟨vs, e, z, RelL.step s _ _ r⟩
  | .dI ds, o, h => by
    obtain ⟨vs, e, z, r⟩ := h
    exact ⟨vs, e, z, DiR.step s r⟩
  | .dT ds, o, h => by
    obtain ⟨vs, e, z, r⟩ := h
    exact ⟨vs, e, z, DtR.step s r⟩
  | .ins c fs, o, h => by
    obtain ⟨C, dx, gs, e, g, z, r⟩ := h
    exact ⟨C, dx, gs, e, by rw [s.mg]; exact g, z, FldR.step s r⟩
/-- not a tuple -/
theorem CellR.notTup {A : At} : ∀ {c : Cell} {o : Option HO} {vs : List V}, CellR A c o → o ≠ some (.tup vs)
  | .lst _, _, _, h => by
    obtain ⟨_, rfl, _⟩ := h
    exact fun e => by cases e
  | .dI _, _, _, h => by
    obtain ⟨_, rfl, _⟩ := h
    exact fun e => by cases e
  | .dT _, _, _, h => by
    obtain ⟨_, rfl, _⟩ := h
    exact fun e => by cases e
  | .ins _ _, _, _, h => by
    obtain ⟨_, _, _, rfl, _⟩ := h
    exact fun e => by cases e
structure Gd (A : At) (S : Store) : Prop where
  len : A.m.length = S.length
  nd : ∀ (i j : Nat) (p : Addr), A.m[i]? = some p → A.m[j]? = some p → i = j
  ok : ∀ (n : Nat) (c : Cell) (p : Addr), S[n]? = some c → A.m[n]? = some p → CellR A c (A.H p)
  noE : ∀ p ∈ A.m, ¬ A.E p
  Es : ∀ p, A.E p → A.H p ≠ none
theorem Gd.at {A : At} {S : Store} (g : Gd A S) {n : Nat} {c : Cell} (h : S[n]? = some c) : ∃ p, A.m[n]? = some p ∧ CellR A c (A.H p) := by
  have hl : n < S.length := (List.getElem?_eq_some_iff.mp h).1
  have hm : n < A.m.length := by rw [g.len]; exact hl
  exact ⟨A.m[n], List.getElem?_eq_getElem hm, g.ok n c _ h (List.getElem?_eq_getElem hm)⟩
theorem Gd.cell {A : At} {S : Store} (g : Gd A S) {p : Addr} (h : p ∈ A.m) : ∃ (n : Nat) (c : Cell), S[n]? = some c ∧ A.m[n]? = some p ∧ CellR A c (A.H p) := by
  obtain ⟨n, hn⟩ := List.mem_iff_getElem?.mp h
  have hl : n < A.m.length := (List.getElem?_eq_some_iff.mp hn).1
  have hs : n < S.length := by rw [← g.len]; exact hl
  exact ⟨n, S[n], List.getElem?_eq_getElem hs, hn, g.ok n _ p (List.getElem?_eq_getElem hs) hn⟩
theorem Gd.notTup {A : At} {S : Store} (g : Gd A S) {p : Addr} {vs : List V} (h : A.H p = some (.tup vs)) : p ∉ A.m := fun hp => by
  obtain ⟨n, c, _, _, k⟩ := g.cell hp
  exact k.notTup h
theorem Gd.there {A : At} {S : Store} (g : Gd A S) {p : Addr} (h : p ∈ A.m) : A.H p ≠ none := by
  obtain ⟨n, c, _, _, k⟩ := g.cell h
  cases c with
  | lst _ => obtain ⟨_, e, _⟩ := k; rw [e]; exact fun z => by cases z
  | dI _ => obtain ⟨_, e, _⟩ := k; rw [e]; exact fun z => by cases z
  | dT _ => obtain ⟨_, e, _⟩ := k; rw [e]; exact fun z => by cases z
  | ins _ _ => obtain ⟨_, _, _, e, _⟩ := k; rw [e]; exact fun z => by cases z

/-- how code may go on: the cells alone change, new ones stand at new addresses -/
structure Ext (A B : At) : Prop where
  K : B.K = A.K
  mg : B.mg = A.mg
  E : B.E = A.E
  pre : ∀ (n : Nat) (p : Addr), A.m[n]? = some p → B.m[n]? = some p
  fresh : ∀ p ∈ B.m, p ∈ A.m ∨ A.H p = none
  keep : ∀ p o, p ∉ A.m → A.H p = some o → B.H p = some o
theorem Ext.refl (A : At) : Ext A A := ⟨rfl, rfl, rfl, fun _ _ h => h, fun _ h => .inl h, fun _ _ _ h => h⟩
theorem Ext.trans {A B C : At} (a : Ext A B) (b : Ext B C) : Ext A C where
  K := b.K.trans a.K
  mg := b.mg.trans a.mg
  E := b.E.trans a.E
  pre := fun n p h => b.pre n p (a.pre n p h)
  fresh := fun p h => by
    rcases b.fresh p h with q | q
    · exact a.fresh p q
    · by_cases z : p ∈ A.m
      · exact .inl z
      · cases e : A.H p with
        | none => exact .inr rfl
        | some o => rw [a.keep p o z e] at q; cases q
  keep := fun p o h e => by
    refine b.keep p o (fun z => ?_) (a.keep p o h e)
    rcases a.fresh p z with q | q
    · exact h q
    · rw [e] at q; cases q
theorem Ext.out {A B : At} (x : Ext A B) {p : Addr} {o : HO} (h : p ∉ A.m) (e : A.H p = some o) : p ∉ B.m := fun z => by
  rcases x.fresh p z with q | q
  · exact h q
  · rw [e] at q; cases q
theorem Rd.there {H : Hp} {p : Addr} {u : HO} (h : Rd H p u) : ∃ o, H p = some o ∧ (o = u ∨ ∃ b, o = .frz b u) := by
  rcases h with h | ⟨b, h⟩
  · exact ⟨_, h, .inl rfl⟩
  · exact ⟨_, h, .inr ⟨b, rfl⟩⟩
theorem Ext.step {A B : At} {S : Store} (g : Gd A S) (x : Ext A B) : Stp A B where
  K := x.K
  mg := x.mg
  pre := x.pre
  rd := fun p vs h => by
    rcases h with ⟨h1, h2, h3⟩ | h
    · refine .inl ⟨?_, by rw [x.E]; exact h2, ?_⟩
      · obtain ⟨o, e, _⟩ := Rd.there h3
        exact x.out h1 e
      · rcases h3 with h3 | ⟨b, h3⟩
        · exact .inl (x.keep _ _ h1 h3)
        · exact .inr ⟨b, x.keep _ _ h1 h3⟩
    · exact .inr (by rw [x.K]; exact h)
  tp := fun p vs h => x.keep _ _ (g.notTup h) h

/-- slots -/
def EnvR (A : At) (ρ : Env) (σ : L2.St) : Prop := σ.length = ρ.length ∧ ∀ (i : Nat) (d : D), ρ[i]? = some (some d) → ∃ v, σ[i]? = some (some v) ∧ Rel A d v
theorem EnvR.step {A B : At} (s : Stp A B) {ρ : Env} {σ : L2.St} (h : EnvR A ρ σ) : EnvR B ρ σ := ⟨h.1, fun i d e => by
  obtain ⟨v, e1, r⟩ := h.2 i d e
  exact ⟨v, e1, Rel.step s d v r⟩⟩
theorem EnvR.set {A : At} {ρ : Env} {σ : L2.St} {i : Nat} {d : D} {v : V} (h : EnvR A ρ σ) (r : Rel A d v) : EnvR A (ρ.set i (some d)) (σ.set i (some v)) := by
  refine ⟨by rw [List.length_set, List.length_set]; exact h.1, fun j e hj => ?_⟩
  by_cases hi : i = j
  · subst hi
    by_cases hlt : i < ρ.length
    · rw [List.getElem?_set_self hlt] at hj
      cases hj
      exact ⟨v, by rw [List.getElem?_set_self (by rw [h.1]; exact hlt)], r⟩
    · rw [List.getElem?_eq_none (by rw [List.length_set]; omega)] at hj
      cases hj
  · rw [List.getElem?_set_ne hi] at hj
    rw [List.getElem?_set_ne hi]
    exact h.2 j e hj
/-- slots forgotten -/
theorem EnvR.less {A : At} {ρ ρ' : Env} {σ σ' : L2.St} (h : EnvR A ρ σ) (hl : σ'.length = ρ'.length) (hw : ∀ (i : Nat) (d : D), ρ'[i]? = some (some d) → ρ[i]? = some (some d) ∧ σ'[i]? = σ[i]?) : EnvR A ρ' σ' := ⟨hl, fun i d e => by
  obtain ⟨e1, e2⟩ := hw i d e
  rw [e2]
  exact h.2 i d e1⟩

/-! ### what is to be shown behind a piece of code -/
def Post {α β : Type} (rel : At → α → β → Prop) (A : At) (r : R α) (Q : β → Hp → Prop) (W : XK) : Prop := match r with
  | .ok d S => ∀ (v : β) (B : At), Ext A B → Gd B S → rel B d v → Q v B.H
  | .exc x S => ∀ B : At, Ext A B → Gd B S → ∃ C, A.mg x = some (.ref C) ∧ W (.ref C) none B.H
  | .bad => False
theorem Post.ext {α β : Type} {rel : At → α → β → Prop} {A B : At} {r : R α} {Q : β → Hp → Prop} {W : XK} (x : Ext A B) (h : Post rel A r Q W) : Post rel B r Q W := by
  cases r with
  | ok d S => exact fun v C y g k => h v C (x.trans y) g k
  | exc e S =>
    intro C y g
    obtain ⟨c, h1, h2⟩ := h C (x.trans y) g
    exact ⟨c, by rw [x.mg]; exact h1, h2⟩
  | bad => exact h
theorem Post.mono {α β : Type} {rel : At → α → β → Prop} {A : At} {r : R α} {Q Q' : β → Hp → Prop} {W W' : XK} (h : Post rel A r Q W) (hq : ∀ v H, Q v H → Q' v H) (hw : ∀ c d H, W c d H → W' c d H) : Post rel A r Q' W' := by
  cases r with
  | ok d S => exact fun v C y g k => hq _ _ (h v C y g k)
  | exc e S =>
    intro C y g
    obtain ⟨c, h1, h2⟩ := h C y g
    exact ⟨c, h1, hw _ _ _ h2⟩
  | bad => exact h
/-- the reading of code whose result is m -/
def Rdg {α β : Type} (rel : At → α → β → Prop) (K : PySem.W.Frag) (mg : Str → Option Value) (W : WX) (ev : Env → M α) (σ : L2.St) (H : Hp) (Q : β → Hp → Prop) : Prop :=
  ∃ (A : At) (ρ : Env) (S : Store), A.K = K ∧ A.mg = mg ∧ A.H = H ∧ Gd A S ∧ EnvR A ρ σ ∧ Post rel A (ev ρ S) Q fun c d H' => W c d σ H'
abbrev TEv (K : PySem.W.Frag) (mg : Str → Option Value) (W : WX) (ev : Env → M D) : TE := fun σ H Q => Rdg Rel K mg W ev σ H Q
abbrev TAv (K : PySem.W.Frag) (mg : Str → Option Value) (W : WX) (ev : Env → M (List D)) : TA := fun σ H Q => Rdg RelL K mg W ev σ H Q
def blR (A : At) (d : D) (b : Bool) : Prop := d = .bl b
def toBl : D → M Bool
  | .bl b => M.pure b
  | _ => M.bad
abbrev TTv (K : PySem.W.Frag) (mg : Str → Option Value) (W : WX) (ev : Env → M Bool) : TT := fun σ H Q => Rdg (fun _ (b : Bool) c => c = b) K mg W ev σ H Q
/-- two pieces one behind another -/
theorem Rdg.bind {α β γ δ : Type} {rel : At → α → β → Prop} {rel' : At → γ → δ → Prop} {W : WX} {A : At} {S : Store} {σ : L2.St} {m : M α} {f : α → M γ} {Q : δ → Hp → Prop} {Q' : β → Hp → Prop}
    (h : Post rel' A ((m S).bind f) Q fun c d H' => W c d σ H')
    (k : ∀ a S1 v B, m S = .ok a S1 → Ext A B → Gd B S1 → rel B a v → Post rel' B (f a S1) Q (fun c d H' => W c d σ H') → Q' v B.H) : Post rel A (m S) Q' fun c d H' => W c d σ H' := by
  cases e : m S with
  | ok a S1 =>
    rw [e] at h
    exact fun v B x g r => k a S1 v B e x g r (Post.ext x h)
  | exc x S1 => rw [e] at h; exact h
  | bad => rw [e] at h; exact h
theorem _root_.L2.PE.less {X : Cx} {e : Expr} {t t' : TE} (h : PE X e t) (i : ∀ σ H Q, t' σ H Q → t σ H Q) : PE X e t' := ⟨fun pins s σ H Q I q => h.run pins s σ H Q I (i σ H Q q)⟩
theorem _root_.L2.PT.less {X : Cx} {e : Expr} {t t' : TT} (h : PT X e t) (i : ∀ σ H Q, t' σ H Q → t σ H Q) : PT X e t' := ⟨fun pins s σ H Q I q => h.run pins s σ H Q I (i σ H Q q)⟩
theorem _root_.L2.PW.less {X : Cx} {e : Expr} {t t' : TT} (h : PW X e t) (i : ∀ σ H Q, t' σ H Q → t σ H Q) : PW X e t' := ⟨fun w pins s σ H Q I q => h.run w pins s σ H Q I (i σ H Q q)⟩
theorem _root_.L2.PA.less {X : Cx} {es : List Expr} {t t' : TA} (h : PA X es t) (i : ∀ σ H Q, t' σ H Q → t σ H Q) : PA X es t' := ⟨fun p pins s σ H Q I q => h.run p pins s σ H Q I (i σ H Q q)⟩
theorem _root_.L2.PS.less {X : Cx} {st : Stmt} {t t' : TS} (h : PS X st t) (i : ∀ D σ H, t' D σ H → t D σ H) : PS X st t' := ⟨fun pins s σ H D I q => h.run pins s σ H D I (i D σ H q)⟩
theorem _root_.L2.PSs.less {X : Cx} {st : List Stmt} {t t' : TS} (h : PSs X st t) (i : ∀ D σ H, t' D σ H → t D σ H) : PSs X st t' := ⟨fun pins s σ H D I q => h.run pins s σ H D I (i D σ H q)⟩
end LC

/-! LC3: the rules of expressions. -/
namespace LC
open PySem PySem.Spec PyProof.Rows L2

/-! ### new objects -/
def At.put (A : At) (p : Addr) (o : HO) : At := { A with H := upd A.H p o }
section
variable {A : At} {S : Store} {p : Addr}
theorem Gd.out (g : Gd A S) (n : A.H p = none) : p ∉ A.m := fun z => g.there z n
theorem Gd.outE (g : Gd A S) (n : A.H p = none) : ¬ A.E p := fun z => g.Es p z n
theorem Ext.put (o : HO) (n : A.H p = none) : Ext A (A.put p o) :=
  ⟨rfl, rfl, rfl, fun _ _ h => h, fun _ h => .inl h, fun q u _ e => by
    show upd A.H p o q = some u
    rw [upd_ne (ne_of_none e n)]
    exact e⟩
theorem Gd.ext {B : At} (g : Gd A S) (x : Ext A B) (hm : B.m = A.m) (hH : ∀ q ∈ A.m, B.H q = A.H q) : Gd B S where
  len := by rw [hm]; exact g.len
  nd := by rw [hm]; exact g.nd
  ok := fun n c q h1 h2 => by
    rw [hm] at h2
    rw [hH q (List.mem_iff_getElem?.mpr ⟨n, h2⟩)]
    exact (g.ok n c q h1 h2).step (x.step g)
  noE := by rw [hm, x.E]; exact g.noE
  Es := fun q h => by
    rw [x.E] at h
    cases e : A.H q with
    | none => exact absurd e (g.Es q h)
    | some o =>
      rw [x.keep q o (fun z => g.noE q z h) e]
      exact fun z => by cases z
theorem Gd.put (g : Gd A S) (o : HO) (n : A.H p = none) : Gd (A.put p o) S := g.ext (Ext.put o n) rfl fun q hq => by
  show upd A.H p o q = A.H q
  exact upd_ne fun z => by rw [z] at hq; exact g.there hq n
theorem new_tup {ds : List D} {vs : List V} {Q : VK} {W : XK} (g : Gd A S) (r : RelL A ds vs) (hl : ds.length ≤ sizeLine) (h : Post Rel A (.ok (.tup ds) S) Q W) (n : A.H p = none) : Q (.ref p) (upd A.H p (.tup vs)) :=
  h (.ref p) (A.put p (.tup vs)) (Ext.put _ n) (g.put _ n) ⟨p, vs, rfl, upd_same, hl, RelL.step ((Ext.put _ n).step g) ds vs r⟩
theorem new_lst {ds : List D} {vs : List V} {Q : VK} {W : XK} (g : Gd A S) (r : RelL A ds vs) (hl : ds.length ≤ sizeLine) (h : Post Rel A (.ok (.lst ds) S) Q W) (n : A.H p = none) : Q (.ref p) (upd A.H p (.lst vs)) :=
  h (.ref p) (A.put p (.lst vs)) (Ext.put _ n) (g.put _ n) ⟨p, vs, rfl, .inl ⟨g.out n, g.outE n, .inl upd_same⟩, hl, RelL.step ((Ext.put _ n).step g) ds vs r⟩
theorem val_ok {d : D} {v : V} {Q : VK} {W : XK} (g : Gd A S) (h : Post Rel A (.ok d S) Q W) (r : Rel A d v) : Q v A.H := h v A (Ext.refl A) g r
end

/-! ### a list that is read -/
def RelR (A : At) : D → V → Prop
  | .lst ds, v => ∃ p vs, v = .ref p ∧ SqL A.K A.H p vs ∧ ds.length ≤ sizeLine ∧ RelL A ds vs
  | d, v => Rel A d v
theorem Rel.r {A : At} {d : D} {v : V} (h : Rel A d v) : RelR A d v := by
  cases d with
  | lst ds =>
    obtain ⟨p, vs, e, h1, h2, h3⟩ := h
    exact ⟨p, vs, e, h1.sq, h2, h3⟩
  | _ => exact h
theorem vw_rel {A : At} {S : Store} {d : D} {v : V} (g : Gd A S) (h : Rel A d v) : RelR A (vw S d) v := by
  cases d with
  | cell n =>
    obtain ⟨p, h1, rfl⟩ := h
    show RelR A (vwc n S[n]?) _
    cases e : S[n]? with
    | none => exact ⟨p, h1, rfl⟩
    | some c =>
      cases c with
      | lst ds =>
        obtain ⟨vs, e1, z, r⟩ := g.ok n _ p e h1
        exact ⟨p, vs, rfl, SqL.of e1, z, r⟩
      | dI _ => exact ⟨p, h1, rfl⟩
      | dT _ => exact ⟨p, h1, rfl⟩
      | ins _ _ => exact ⟨p, h1, rfl⟩
  | lst ds => exact h.r
  | _ => exact h
/-- as shapes: what may be compared -/
theorem RelR.dp {A : At} : ∀ {d : D} {v : V} {n : Nat}, d.sh n = true → RelR A d v → Dp A.K A.H v d.pd
  | .lst xs, v, n + 1, h, r => by
    obtain ⟨p, vs, rfl, h1, h2, h3⟩ := r
    exact .lst h1 (RelL.dp xs vs n h h3)
  | .lst _, _, 0, h, _ => by cases h
  | .tup xs, v, n, h, r => Rel.dp _ _ n h r
  | .non, v, n, h, r => Rel.dp _ _ n h r
  | .bl _, v, n, h, r => Rel.dp _ _ n h r
  | .int _, v, n, h, r => Rel.dp _ _ n h r
  | .str _, v, n, h, r => Rel.dp _ _ n h r
  | .cell _, v, n, h, r => Rel.dp _ _ n h r
  | .fn _, v, n, h, r => Rel.dp _ _ n h r
  | .exc _, v, n, h, r => Rel.dp _ _ n h r
  | .ty _, v, n, h, r => Rel.dp _ _ n h r

/-! ### where a body stands -/
structure OkX (X : Cx) (N : List Str) (sc : Scope) (K : PySem.W.Frag) (mg : Str → Option Value) : Prop where
  eN : X.N = N
  es : X.env.scope = sc
  nd : N.Nodup
  calm : X.calm = true
  eK : X.K = K
  em : X.mg = mg
  room : Room 1 X.A
section
variable {X : Cx} {N : List Str} {sc : Scope} {K : PySem.W.Frag} {mg : Str → Option Value} {W : WX} {pos : Pos} {a b : Expr} {ea eb : Env → M D}
def getE (ρ : Env) (i : Nat) : Option D := match ρ[i]? with
  | some (some d) => some d
  | _ => none
theorem getE_of {ρ : Env} {i : Nat} {d : D} (h : getE ρ i = some d) : ρ[i]? = some (some d) := by
  unfold getE at h
  split at h
  · cases h; assumption
  · cases h
theorem sE_var {i : Nat} {x : Str} (hN : X.N[i]? = some x) (hv : Vis X.env.scope x) (hd : (x == ("__debug__" : Str)) = false) (hcd : (x == ("__classdict__" : Str)) = false) : PE X (.Name x pos) (TEv K mg W fun ρ => M.opt (getE ρ i)) :=
  (pe_var hN hv hd hcd).less fun σ H Q h => by
    obtain ⟨A, ρ, S, rfl, rfl, rfl, g, r, h⟩ := h
    cases e : getE ρ i with
    | none => simp only [e] at h; exact h.elim
    | some d =>
      simp only [e] at h
      obtain ⟨v, e1, r1⟩ := r.2 i d (getE_of e)
      exact ⟨v, e1, val_ok g h r1⟩
def cstOk : Const → D → Bool
  | .none, .non => true
  | .bool b, .bl c => b == c
  | .int i, .int j => decide (i = j)
  | .str x, .str y => decide (x = y)
  | _, _ => false
theorem sE_cst {c : Const} {d : D} {j : Nat} (h : cstOk c d = true) : PE X (.Constant c j pos) (TEv K mg W fun _ => M.pure d) := by
  have fin : ∀ {v : V} {σ : L2.St} {H : Hp} {Q : VK}, (∀ A, Rel A d v) → TEv K mg W (fun _ => M.pure d) σ H Q → Q v H := fun {v σ H Q} r h => by
    obtain ⟨A, ρ, S, rfl, rfl, rfl, g, _, h⟩ := h
    exact val_ok g h (r A)
  cases c with
  | none =>
    cases d with
    | non => exact pe_non.less fun σ H Q h => fin (fun _ => rfl) h
    | _ => cases h
  | bool b =>
    cases d with
    | bl c =>
      have e : b = c := by simpa [cstOk] using h
      subst e
      exact pe_bl.less fun σ H Q h => fin (fun _ => rfl) h
    | _ => cases h
  | int b =>
    cases d with
    | int c =>
      have e : b = c := of_decide_eq_true h
      subst e
      exact pe_int.less fun σ H Q h => fin (fun _ => rfl) h
    | _ => cases h
  | str b =>
    cases d with
    | str c =>
      have e : b = c := of_decide_eq_true h
      subst e
      exact pe_str.less fun σ H Q h => fin (fun _ => rfl) h
    | _ => cases h
  | _ => cases h
/-- a def of the text, as a value -/
theorem sE_gfn {x : Str} (hg : Gl X x) (hm : ∃ f, mg x = some (.ref f)) (em : X.mg = mg) (hd : (x == ("__debug__" : Str)) = false) : PE X (.Name x pos) (TEv K mg W fun _ => M.pure (.fn x)) := by
  obtain ⟨f, hf⟩ := hm
  refine (pe_glob (v := .ref f) hg (by rw [em]; exact hf) rfl hd).less fun σ H Q h => ?_
  obtain ⟨A, ρ, S, rfl, rfl, rfl, g, _, h⟩ := h
  exact val_ok g h ⟨f, hf, rfl⟩

/-! ### two operands -/
def op2 (f : D → D → Option D) (ea eb : Env → M D) : Env → M D := fun ρ => M.bind (ea ρ) fun x => M.bind (eb ρ) fun y => fun S => M.opt (f (vw S x) (vw S y)) S
/-- a rule's wants, met by what the small language says -/
def Snd2 (K : PySem.W.Frag) (f : D → D → Option D) (r : R2) : Prop :=
  ∀ (A : At) (S : Store) (x y d : D) (v w : V) (Q : VK) (W : XK), A.K = K → Gd A S → RelR A x v → RelR A y w → f x y = some d → Post Rel A (.ok d S) Q W → r v w A.H Q
theorem Snd2.or1 {K : PySem.W.Frag} {f : D → D → Option D} {r r' : R2} (h : Snd2 K f r) : Snd2 K f (fun x y H Q => r x y H Q ∨ r' x y H Q) := fun A S x y d v w Q W k g a b e p => .inl (h A S x y d v w Q W k g a b e p)
theorem Snd2.or2 {K : PySem.W.Frag} {f : D → D → Option D} {r r' : R2} (h : Snd2 K f r') : Snd2 K f (fun x y H Q => r x y H Q ∨ r' x y H Q) := fun A S x y d v w Q W k g a b e p => .inr (h A S x y d v w Q W k g a b e p)
theorem rd_op {f : D → D → Option D} {r : R2} (s : Snd2 K f r) {σ : L2.St} {H : Hp} {Q : VK} (h : TEv K mg W (op2 f ea eb) σ H Q) : tOp r (TEv K mg W ea) (TEv K mg W eb) σ H Q := by
  obtain ⟨A, ρ, S, eK, em, eH, g, r1, h⟩ := h
  refine ⟨A, ρ, S, eK, em, eH, g, r1, Rdg.bind h fun x S1 v B _ x1 g1 q1 h1 => ?_⟩
  refine ⟨B, ρ, S1, x1.K.trans eK, x1.mg.trans em, rfl, g1, r1.step (x1.step g), Rdg.bind h1 fun y S2 w C _ x2 g2 q2 h2 => ?_⟩
  have h2 : Post Rel C (M.opt (f (vw S2 x) (vw S2 y)) S2) Q (fun c d H' => W c d σ H') := h2
  cases e : f (vw S2 x) (vw S2 y) with
  | none => rw [e] at h2; exact h2.elim
  | some d =>
    rw [e] at h2
    exact s C S2 _ _ d v w Q _ ((x2.K.trans x1.K).trans eK) g2 (vw_rel g2 (Rel.step (x2.step g1) _ _ q1)) (vw_rel g2 q2) e h2
theorem sE_op {op : Operator} {f : D → D → Option D} {r : R2} (ho : OpR X (binaryOp op) r) (s : Snd2 K f r) (ha : PE X a (TEv K mg W ea)) (hb : PE X b (TEv K mg W eb)) : PE X (.BinOp a op b pos) (TEv K mg W (op2 f ea eb)) :=
  (pe_op ho ha hb).less fun σ H Q h => rd_op s h
theorem sE_cmp {op : CmpOp} {f : D → D → Option D} {r : R2} (ho : OpR X (compareOp op) r) (s : Snd2 K f r) (hm : behindInMarks op b = false) (ha : PE X a (TEv K mg W ea)) (hb : PE X b (TEv K mg W eb)) : PE X (.Compare a [op] [b] pos) (TEv K mg W (op2 f ea eb)) :=
  (pe_cmpR ho ha hb hm).less fun σ H Q h => rd_op s h
/-- a test by a value's rule -/
def asBl (e : Env → M D) : Env → M Bool := fun ρ => M.bind (e ρ) toBl
theorem rd_bl {σ : L2.St} {H : Hp} {Q : Bool → Hp → Prop} (h : TTv K mg W (asBl ea) σ H Q) : TEv K mg W ea σ H (fun x H1 => ∃ c, x = .bl c ∧ Q c H1) := by
  obtain ⟨A, ρ, S, eK, em, eH, g, r1, h⟩ := h
  refine ⟨A, ρ, S, eK, em, eH, g, r1, Rdg.bind h fun x S1 v B _ x1 g1 q1 h1 => ?_⟩
  cases x with
  | bl b => exact ⟨b, q1, h1 b B (Ext.refl B) g1 rfl⟩
  | _ => exact h1.elim
theorem sT_cmp {op : CmpOp} {f : D → D → Option D} {r : R2} (ho : OpR X (compareOp op) r) (s : Snd2 K f r) (hm : behindInMarks op b = false) (ha : PE X a (TEv K mg W ea)) (hb : PE X b (TEv K mg W eb)) : PT X (.Compare a [op] [b] pos) (TTv K mg W (asBl (op2 f ea eb))) :=
  (pt_cmpR ho ha hb hm).less fun σ H Q h => by
    have q := rd_bl h
    exact rd_op s q
theorem sT_val (he : ∀ whole, isTrue a X.env whole = (do let v ← whole; standAt a.pos; holding [v] (truthy v))) (ha : PE X a (TEv K mg W ea)) : PT X a (TTv K mg W (asBl ea)) :=
  (pt_val ha he).less fun σ H Q h => rd_bl h
end
end LC

set_option maxHeartbeats 1000000
/-! LC4: the operators' rules, met by the small language. -/
namespace LC
open PySem PySem.Spec PyProof.Rows L2
theorem line_eq : line = sizeLine := by rw [sizeLine_eq]; rfl

/-! ### lists of any kind -/
def rCatS (K : PySem.W.Frag) : R2 := fun x y H Q => ∃ l b xs zs, x = .ref l ∧ y = .ref b ∧ SqL K H l xs ∧ SqL K H b zs ∧ xs.length + zs.length ≤ sizeLine ∧ ∀ p, H p = none → Q (.ref p) (upd H p (.lst (xs ++ zs)))
theorem op_catS {X : Cx} : OpR X (binaryOp .Add) (rCatS X.K) := by
  intro pins s σ H x y v u Q I rx ry h
  obtain ⟨l, b, xs, zs, rfl, rfl, hH, hB, hz, q⟩ := h
  cases rx
  cases ry
  obtain ⟨its, r, hl, z1⟩ := I.list hH
  obtain ⟨its2, r2, hb, z2⟩ := I.list hB
  obtain ⟨⟨cls, dd, data, sl⟩, n, ho, hc, hdd, hd⟩ := id hl
  obtain ⟨⟨cls2, dd2, data2, sl2⟩, n2, ho2, hc2, hdd2, hd2⟩ := id hb
  simp only at hc hd hc2 hd2
  subst hc hd hc2 hd2
  have l1 := r.length
  have l2 := r2.length
  refine concat_meets ⟨_, ho, rfl⟩ ⟨_, ho2, rfl⟩ noFill_list_add seq_list_add PySem.F.slot_list_add PySem.F.entry_list_add (PySem.F.args_list_add_2 _ _)
    (list_addW l b its.toArray its2.toArray n n2 dd dd2 sl sl2 (by rw [List.size_toArray, List.size_toArray]; omega)) ⟨ho, ho2, ?_⟩
  have e : its.toArray ++ its2.toArray = (its ++ its2).toArray := by simp
  rw [e]
  exact ⟨.ref _, _, I.lnew (t' := s.toks) (r.append r2) (by rw [List.length_append]; omega), rfl, q _ I.fresh⟩
theorem tuple_mulW1 (l : Addr) (items : Array Value) (n : Nat) (dd : Option Addr) (sl : Array (Option Value)) (u : Tok) :
    Meets (Builtin.«tuple.__mul__» ⟨[.ref l, .int 1 u], []⟩) (fun _ R s => s.heap.get? l = some { cls := .type "tuple", dict := dd, data := .seq items n, slots := sl } ∧ R (.ok (.ret (Value.ref l))) s) :=
  .of_wp fun prog w A R s h => by
    obtain ⟨hp, g, d, tk, os⟩ := s
    obtain ⟨hl, h⟩ := h
    have f1 := AutoSeq1.idx_int
    have c1 : (items.isEmpty || (1 : Int) == 1) = true := by simp
    wp_walk using wpAny_loadPart' hl
    repeat (first
      | (refine wpAny_ite_true (decide_eq_true (by rw [c1])) ?_; wp_walk using wpAny_loadPart' hl)
      | exact ⟨_, rfl, h⟩)
theorem tuple_mulW0 (l : Addr) (items : Array Value) (n : Nat) (dd : Option Addr) (sl : Array (Option Value)) (x : Int) (u : Tok) (c0 : (decide (x < -(2 ^ 63)) || decide (x ≥ 2 ^ 63)) = false) (c1 : (items.isEmpty || x == 1) = false) (c2 : (decide (x ≤ 0) || items.isEmpty) = true) :
    Meets (Builtin.«tuple.__mul__» ⟨[.ref l, .int x u], []⟩) (fun _ R s => s.heap.get? l = some { cls := .type "tuple", dict := dd, data := .seq items n, slots := sl } ∧
      R (.ok (.ret (Value.ref s.heap.objs.size))) { s with heap := s.heap.push { cls := Value.type "tuple", data := Data.seq #[] }, toks := s.toks }) :=
  .of_wp fun prog w A R s h => by
    obtain ⟨hp, g, d, tk, os⟩ := s
    obtain ⟨hl, h⟩ := h
    have f1 := AutoSeq1.idx_int
    wp_walk using wpAny_loadPart' hl
    repeat (first
      | (refine wpAny_ite_false (decide_eq_false (by rw [c0]; exact Bool.false_ne_true)) ?_; wp_walk using wpAny_loadPart' hl)
      | (refine wpAny_ite_false (decide_eq_false (by rw [c1]; exact Bool.false_ne_true)) ?_; wp_walk using wpAny_loadPart' hl)
      | (refine wpAny_ite_true (decide_eq_true (by rw [c2])) ?_; wp_walk using wpAny_loadPart' hl)
      | exact ⟨_, rfl, h⟩)
theorem list_mulW (l : Addr) (items : Array Value) (n : Nat) (dd : Option Addr) (sl : Array (Option Value)) (x : Int) (u : Tok) (hc0 : ¬(!Builtin.List.listFitsIndex x) = true) (hc1 : ¬items.size * x.toNat > (2 ^ 63 - 1) / 8) (hc2 : ¬Builtin.List.listTooLong (items.size * x.toNat) = true)
    (hsz : (List.foldl (fun x1 x2 => x1 ++ x2) #[] (List.replicate (if items.isEmpty = true then 0 else x.toNat) items)).size ≤ sizeLine) :
    Meets (Builtin.«list.__mul__» ⟨[.ref l, .int x u], []⟩) (fun _ R s => s.heap.get? l = some { cls := .type "list", dict := dd, data := .seq items n, slots := sl } ∧ R (.ok (.ret (Value.ref s.heap.objs.size))) { s with heap := s.heap.push { cls := Value.type "list", data := Data.seq (List.foldl (fun x1 x2 => x1 ++ x2) #[] (List.replicate (if items.isEmpty = true then 0 else x.toNat) items)) }, toks := s.toks }) :=
  .of_wp fun prog w A R s h => by
    obtain ⟨hp, g, d, tk, os⟩ := s
    obtain ⟨hl, h⟩ := h
    have f1 := AutoSeq1.idx_int
    wp_walk using wpAny_loadPart' hl
    repeat (first
      | (refine wpAny_ite_false (decide_eq_false hc0) ?_; wp_walk using wpAny_loadPart' hl)
      | (refine wpAny_ite_false (decide_eq_false hc1) ?_; wp_walk using wpAny_loadPart' hl)
      | (refine wpAny_ite_false (decide_eq_false hc2) ?_; wp_walk using wpAny_loadPart' hl)
      | (refine wpAny_ite_false (decide_eq_false (Nat.not_lt.mpr hsz)) ?_; wp_walk using wpAny_loadPart' hl)
      | exact ⟨_, rfl, h⟩)
theorem int_rmul_listW (a : Int) (t : Tok) (l : Addr) (items : Array Value) (n : Nat) (dd : Option Addr) (sl : Array (Option Value)) :
    Meets (Builtin.«int.__rmul__» ⟨[.int a t, .ref l], []⟩) (fun _ R s => s.heap.get? l = some { cls := .type "list", dict := dd, data := .seq items n, slots := sl } ∧ R (.ok (.ret Value.notImplemented)) s) :=
  .of_wp fun prog w A R s h => by obtain ⟨hp, g, d, tk, os⟩ := s; obtain ⟨hl, h⟩ := h; wp_walk using wpAny_loadPart' hl; exact ⟨_, rfl, h⟩
theorem foldl_repA (its : List Value) (m : Nat) : List.foldl (fun x1 x2 => x1 ++ x2) #[] (List.replicate m its.toArray) = (List.replicate m its).flatten.toArray := by
  have := foldl_rep its m []
  rw [List.nil_append] at this
  exact this
def rRepS (K : PySem.W.Frag) : R2 := fun x y H Q => ∃ l k xs, x = .ref l ∧ y = .int k ∧ SqL K H l xs ∧ -1000 ≤ k ∧ k ≤ 1000 ∧ xs.length ≤ 1000 ∧ ∀ p, H p = none → Q (.ref p) (upd H p (.lst (List.replicate k.toNat xs).flatten))
theorem op_repS {X : Cx} : OpR X (binaryOp .Mult) (rRepS X.K) := by
  intro pins s σ H x y v u Q I rx ry h
  obtain ⟨l, k, xs, rfl, rfl, hH, h1, h2, hz, q⟩ := h
  cases rx
  obtain ⟨t, rfl⟩ := ry
  obtain ⟨its, r, hl, z1⟩ := I.list hH
  obtain ⟨⟨cls, dd, data, sl⟩, n, ho, hc, hdd, hd⟩ := id hl
  simp only at hc hd
  subst hc hd
  have l1 := r.length
  have hk : k.toNat ≤ 1000 := by omega
  have hm : k.toNat * xs.length ≤ 1000 * 1000 := Nat.mul_le_mul hk hz
  have hsl := sizeLine_eq
  have hm2 : its.toArray.size * k.toNat ≤ 1000 * 1000 := by rw [List.size_toArray, ← l1, Nat.mul_comm]; exact hm
  have hlen : its.toArray.size * k.toNat ≤ sizeLine := by omega
  have hcap : ¬ its.toArray.size * k.toNat > (2 ^ 63 - 1) / 8 := by
    have : (1000 * 1000 : Nat) ≤ (2 ^ 63 - 1) / 8 := by decide
    omega
  have hfit : ¬ (!Builtin.List.listFitsIndex k) = true := by
    rw [fitsIndex_both (by omega) (by omega)]
    exact Bool.false_ne_true
  have hlong : ¬ Builtin.List.listTooLong (its.toArray.size * k.toNat) = true := by
    rw [notLongL hlen]
    exact Bool.false_ne_true
  have hnew : List.foldl (fun x1 x2 => x1 ++ x2) #[] (List.replicate (if its.toArray.isEmpty = true then 0 else k.toNat) its.toArray) = (List.replicate k.toNat its).flatten.toArray := by
    rw [foldl_repA]
    cases its with
    | nil => simp
    | cons a r' => rw [if_neg (by simp)]
  have hll : (List.replicate k.toNat its).flatten.length ≤ sizeLine := by
    rw [PyProof.Rows.lm_len_rep_flat, ← l1]
    omega
  refine wpAny_binaryOp_repeat_ref (T := "list") (U := "int") (by decide) ⟨_, ho, rfl⟩ (fun s' => typeIs_int s' k t) noFill_list_mul F.fills_int_mul F.slot_int_rmul repeat_list F.slot_int_index.lookup
    (call_meets F.slot_int_rmul (typeIs_int s k t) F.entry_int_rmul (F.args_int_rmul_2 _ _) (int_rmul_listW k t l its.toArray n dd sl)
      ⟨ho, rfl, ⟨_, ho, rfl⟩, call_meets F.slot_list_mul ⟨_, ho, rfl⟩ F.entry_list_mul (F.args_list_mul_2 _ _) (list_mulW l its.toArray n dd sl k t hfit hcap hlong (by rw [hnew, List.size_toArray]; exact hll)) ⟨ho, ?_⟩⟩)
  rw [hnew]
  exact ⟨.ref _, _, I.lnew (t' := s.toks) (r.rep k.toNat) (by rw [PyProof.Rows.lm_len_rep_flat]; omega), rfl, q _ I.fresh⟩
def rRepA (K : PySem.W.Frag) : R2 := fun x y H Q => ∃ l k xs, x = .ref l ∧ y = .int k ∧ SqT K H l xs ∧ xs ≠ [] ∧ -1000 ≤ k ∧ k ≤ 1000 ∧ xs.length ≤ 1000 ∧ (k = 1 → Q (.ref l) H) ∧ (k ≠ 1 → ∀ p, H p = none → Q (.ref p) (upd H p (.tup (List.replicate k.toNat xs).flatten)))
theorem op_repA {X : Cx} : OpR X (binaryOp .Mult) (rRepA X.K) := by
  intro pins s σ H x y v u Q I rx ry h
  obtain ⟨l, k, xs, rfl, rfl, hT, hne, h1, h2, hz, q1, q2⟩ := h
  by_cases hk2 : 2 ≤ k
  · exact op_repT pins s σ H _ _ v u Q I rx ry ⟨l, k, xs, rfl, rfl, hT, hne, hk2, h2, hz, q2 (by omega)⟩
  cases rx
  obtain ⟨t, rfl⟩ := ry
  obtain ⟨its, r, ⟨⟨cls, dd, data, sl⟩, ho, hc, n, hd⟩, hs⟩ := I.tuple hT
  simp only at hc hd
  subst hc hd
  by_cases hk1 : k = 1
  · subst hk1
    exact wpAny_binaryOp_repeat_ref (T := "tuple") (U := "int") (by decide) ⟨_, ho, rfl⟩ (fun s' => typeIs_int s' 1 t) noFill_tuple_mul F.fills_int_mul F.slot_int_rmul repeat_tuple F.slot_int_index.lookup
      (call_meets F.slot_int_rmul (typeIs_int s 1 t) F.entry_int_rmul (F.args_int_rmul_2 _ _) (int_rmul_tuple 1 t l its.toArray n dd sl)
        ⟨ho, rfl, ⟨_, ho, rfl⟩, call_meets F.slot_tuple_mul ⟨_, ho, rfl⟩ F.entry_tuple_mul (F.args_tuple_mul_2 _ _) (tuple_mulW1 l its.toArray n dd sl t) ⟨ho, ⟨.ref l, H, I, rfl, q1 rfl⟩⟩⟩)
  · have hle : its.length = xs.length := r.length.symm
    have hi : its.toArray.isEmpty = false := by
      cases its with
      | nil => exact absurd (List.eq_nil_of_length_eq_zero (show xs.length = 0 from hle.symm)) hne
      | cons a b => rfl
    have c0 : (decide (k < -(2 ^ 63)) || decide (k ≥ 2 ^ 63)) = false := by
      rw [decide_eq_false (by omega), decide_eq_false (by omega)] <;> rfl
    have c1 : (its.toArray.isEmpty || k == 1) = false := by
      rw [hi, Bool.false_or]
      exact beq_eq_false_iff_ne.mpr hk1
    have c2 : (decide (k ≤ 0) || its.toArray.isEmpty) = true := by
      rw [decide_eq_true (by omega)]
      rfl
    refine wpAny_binaryOp_repeat_ref (T := "tuple") (U := "int") (by decide) ⟨_, ho, rfl⟩ (fun s' => typeIs_int s' k t) noFill_tuple_mul F.fills_int_mul F.slot_int_rmul repeat_tuple F.slot_int_index.lookup
      (call_meets F.slot_int_rmul (typeIs_int s k t) F.entry_int_rmul (F.args_int_rmul_2 _ _) (int_rmul_tuple k t l its.toArray n dd sl)
        ⟨ho, rfl, ⟨_, ho, rfl⟩, call_meets F.slot_tuple_mul ⟨_, ho, rfl⟩ F.entry_tuple_mul (F.args_tuple_mul_2 _ _) (tuple_mulW0 l its.toArray n dd sl k t c0 c1 c2) ⟨ho, ?_⟩⟩)
    have e0 : (List.replicate k.toNat xs).flatten = [] := by
      rw [show k.toNat = 0 by omega]
      rfl
    have q3 := q2 hk1 s.heap.objs.size (I.hok.fresh (Nat.le_refl _))
    rw [e0] at q3
    exact ⟨.ref s.heap.objs.size, _, I.laid (t' := s.toks) (o := .tup []) (fun b ob q => Heap.get?_push_of_some _ q) (Nat.le_refl _) ⟨Nat.zero_le _, [], .nil, IsTup.new _ _⟩, rfl, q3⟩

/-! ### in, not in, over tuples -/
def rInT (K : PySem.W.Frag) (neg : Bool) : R2 := fun x y H Q => ∃ (d : PyData) (ds : List PyData), Dp K H x d ∧ Dp K H y (.tuple ds) ∧ SeqAt.shaped d = true ∧ SeqAt.shaped (.tuple ds) = true ∧ Q (.bl (if neg then !ds.any (fun z => PyData.eqv z d) else ds.any fun z => PyData.eqv z d)) H
theorem op_inT {X : Cx} (hu : X.A.units + 65 < cLine) : OpR X (compareOp .In) (rInT X.K false) := by
  intro pins s σ H x y v u Q I rx ry h
  obtain ⟨d, ds, hd, he, sd, se, q⟩ := h
  obtain ⟨as, r1⟩ := Dp.reads I d x v hd rx
  obtain ⟨bs, r2⟩ := Dp.reads I (.tuple ds) y u he ry
  exact SeqAt.in_tuple_reads r2 r1 (SeqAt.canLay_of_shaped se) (SeqAt.canLay_of_shaped sd) (room_in_shaped sd hu) ⟨.bl _, H, I, rfl, q⟩
theorem op_notInT {X : Cx} (hu : X.A.units + 65 < cLine) : OpR X (compareOp .NotIn) (rInT X.K true) := by
  intro pins s σ H x y v u Q I rx ry h
  obtain ⟨d, ds, hd, he, sd, se, q⟩ := h
  obtain ⟨as, r1⟩ := Dp.reads I d x v hd rx
  obtain ⟨bs, r2⟩ := Dp.reads I (.tuple ds) y u he ry
  exact SeqAt.notIn_tuple_reads r2 r1 (SeqAt.canLay_of_shaped se) (SeqAt.canLay_of_shaped sd) (room_in_shaped sd hu) ⟨.bl _, H, I, rfl, q⟩
end LC

set_option maxHeartbeats 1000000
/-! LC5: the operators, each as one rule. -/
namespace LC
open PySem PySem.Spec PyProof.Rows L2
def rNo : R2 := fun _ _ _ _ => False
def rStr : R2 := fun x y H Q => ∃ i j, x = .str i ∧ y = .str j ∧ i.length + j.length ≤ sizeLine ∧ Q (.str (i ++ j)) H
def rBin (K : PySem.W.Frag) : Operator → R2
  | .Add => fun x y H Q => (rI0 fun i j => .int (i + j)) x y H Q ∨ (rCatA K x y H Q ∨ (rCatS K x y H Q ∨ rStr x y H Q))
  | .Sub => rI0 fun i j => .int (i - j)
  | .Mult => fun x y H Q => (rI CMulW fun i j => .int (i * j)) x y H Q ∨ (rRepA K x y H Q ∨ rRepS K x y H Q)
  | .FloorDiv => fun x y H Q => (rI CDivN fun i j => .int (i.fdiv j)) x y H Q ∨ (rI CDivW fun i j => .int (i / j)) x y H Q
  | .Mod => rI (fun _ j => j ≠ 0) fun i j => .int (i.fmod j)
  | .Pow => rI CPow fun i j => .int (i ^ j.toNat)
  | _ => rNo
theorem op_no {X : Cx} {f : Value → Value → Sem Value} : OpR X f rNo := fun _ _ _ _ _ _ _ _ _ _ _ _ h => h.elim
theorem op_bin {X : Cx} : ∀ op : Operator, OpR X (binaryOp op) (rBin X.K op)
  | .Add => op_add.or (op_catA.or (op_catS.or op_add_str))
  | .Sub => op_sub
  | .Mult => op_mulW.or (op_repA.or op_repS)
  | .FloorDiv => op_fdivN.or op_fdivW
  | .Mod => op_modN
  | .Pow => op_pow
  | .MatMult => op_no
  | .Div => op_no
  | .LShift => op_no
  | .RShift => op_no
  | .BitOr => op_no
  | .BitXor => op_no
  | .BitAnd => op_no
theorem snd_bin {K : PySem.W.Frag} (op : Operator) : Snd2 K (binD op) (rBin K op) := by
  intro A S x y d v w Q W eK g rx ry e h
  cases op with
  | Add =>
    cases x with
    | int a =>
      cases y with
      | int b =>
        cases e
        exact .inl ⟨a, b, rx, ry, val_ok g h rfl⟩
      | _ => cases e
    | tup a =>
      cases y with
      | tup b =>
        have e' : (if a.length + b.length ≤ line then some (D.tup (a ++ b)) else none) = some d := e
        split at e'
        · rename_i hl
          cases e'
          obtain ⟨p, vs, rfl, h1, h2, h3⟩ := rx
          obtain ⟨q, ws, rfl, k1, k2, k3⟩ := ry
          rw [line_eq] at hl
          have l1 := h3.len
          have l2 := k3.len
          refine .inr (.inl ⟨p, q, vs, ws, rfl, rfl, SqT.of h1, SqT.of k1, by omega, fun z => ?_, fun _ z => ?_, fun _ _ r n => new_tup g (h3.append k3) (by rw [List.length_append]; exact hl) h n⟩)
          · have z1 : a = [] := List.eq_nil_of_length_eq_zero (by rw [← l1, z]; rfl)
            subst z1
            exact val_ok g h ⟨q, ws, rfl, k1, by simpa using k2, by simpa using k3⟩
          · have z1 : b = [] := List.eq_nil_of_length_eq_zero (by rw [← l2, z]; rfl)
            subst z1
            exact val_ok g h ⟨p, vs, rfl, h1, by simpa using h2, by simpa using h3⟩
        · cases e'
      | _ => cases e
    | lst a =>
      cases y with
      | lst b =>
        have e' : (if a.length + b.length ≤ line then some (D.lst (a ++ b)) else none) = some d := e
        split at e'
        · rename_i hl
          cases e'
          obtain ⟨p, vs, rfl, h1, h2, h3⟩ := rx
          obtain ⟨q, ws, rfl, k1, k2, k3⟩ := ry
          rw [line_eq] at hl
          have l1 := h3.len
          have l2 := k3.len
          subst eK
          exact .inr (.inr (.inl ⟨p, q, vs, ws, rfl, rfl, h1, k1, by omega, fun r n => new_lst g (h3.append k3) (by rw [List.length_append]; exact hl) h n⟩))
        · cases e'
      | _ => cases e
    | str a =>
      cases y with
      | str b =>
        have e' : (if a.length + b.length ≤ line then some (D.str (a ++ b)) else none) = some d := e
        split at e'
        · rename_i hl
          cases e'
          rw [line_eq] at hl
          exact .inr (.inr (.inr ⟨a, b, rx, ry, hl, val_ok g h rfl⟩))
        · cases e'
      | _ => cases e
    | _ => cases y <;> cases e
  | Sub =>
    cases x with
    | int a =>
      cases y with
      | int b =>
        cases e
        exact ⟨a, b, rx, ry, val_ok g h rfl⟩
      | _ => cases e
    | _ => cases y <;> cases e
  | Mult =>
    cases x with
    | int a =>
      cases y with
      | int b =>
        have e' : (if a.natAbs.log2 + b.natAbs.log2 < 1000000 then some (D.int (a * b)) else none) = some d := e
        split at e'
        · rename_i hl
          cases e'
          exact .inl ⟨a, b, rx, ry, hl, val_ok g h rfl⟩
        · cases e'
      | _ => cases e
    | tup a =>
      cases y with
      | int k =>
        have e' : (if -1000 ≤ k ∧ k ≤ 1000 ∧ a ≠ [] ∧ a.length ≤ 1000 then some (D.tup (List.replicate k.toNat a).flatten) else none) = some d := e
        split at e'
        · rename_i hl
          obtain ⟨k1, k2, k3, k4⟩ := hl
          cases e'
          obtain ⟨p, vs, rfl, h1, h2, h3⟩ := rx
          have l1 := h3.len
          have hm : k.toNat * a.length ≤ 1000 * 1000 := Nat.mul_le_mul (by omega) k4
          have hsl := sizeLine_eq
          refine .inr (.inl ⟨p, k, vs, rfl, ry, SqT.of h1, fun z => k3 (List.eq_nil_of_length_eq_zero (by rw [← l1, z]; rfl)), k1, k2, by omega, fun z => ?_, fun _ r n => new_tup g (h3.rep k.toNat) (by rw [PyProof.Rows.lm_len_rep_flat]; omega) h n⟩)
          subst z
          exact val_ok g h ⟨p, vs, rfl, h1, by simpa using h2, by simpa using h3⟩
        · cases e'
      | _ => cases e
    | lst a =>
      cases y with
      | int k =>
        have e' : (if -1000 ≤ k ∧ k ≤ 1000 ∧ a.length ≤ 1000 then some (D.lst (List.replicate k.toNat a).flatten) else none) = some d := e
        split at e'
        · rename_i hl
          obtain ⟨k1, k2, k4⟩ := hl
          cases e'
          obtain ⟨p, vs, rfl, h1, h2, h3⟩ := rx
          have l1 := h3.len
          have hm : k.toNat * a.length ≤ 1000 * 1000 := Nat.mul_le_mul (by omega) k4
          have hsl := sizeLine_eq
          subst eK
          exact .inr (.inr ⟨p, k, vs, rfl, ry, h1, k1, k2, by omega, fun r n => new_lst g (h3.rep k.toNat) (by rw [PyProof.Rows.lm_len_rep_flat]; omega) h n⟩)
        · cases e'
      | _ => cases e
    | _ => cases y <;> cases e
  | FloorDiv =>
    cases x with
    | int a =>
      cases y with
      | int b =>
        have e' : (if b ≠ 0 ∧ b.natAbs < 1073741824 ∨ 0 < b ∧ b.natAbs.log2 < 9000 then some (D.int (a.fdiv b)) else none) = some d := e
        split at e'
        · rename_i hl
          cases e'
          rcases hl with hl | hl
          · exact .inl ⟨a, b, rx, ry, hl, val_ok g h rfl⟩
          · refine .inr ⟨a, b, rx, ry, hl, val_ok g h ?_⟩
            rw [Int.fdiv_eq_ediv_of_nonneg a (by omega)]
            exact rfl
        · cases e'
      | _ => cases e
    | _ => cases y <;> cases e
  | Mod =>
    cases x with
    | int a =>
      cases y with
      | int b =>
        have e' : (if b ≠ 0 then some (D.int (a.fmod b)) else none) = some d := e
        split at e'
        · rename_i hl
          cases e'
          exact ⟨a, b, rx, ry, hl, val_ok g h rfl⟩
        · cases e'
      | _ => cases e
    | _ => cases y <;> cases e
  | Pow =>
    cases x with
    | int a =>
      cases y with
      | int b =>
        have e' : (if 0 ≤ b ∧ b ≤ 1000000 ∧ a.natAbs < 18446744073709551616 then some (D.int (a ^ b.toNat)) else none) = some d := e
        split at e'
        · rename_i hl
          cases e'
          exact ⟨a, b, rx, ry, ⟨hl.1, hl.2.1, hl.2.2⟩, val_ok g h rfl⟩
        · cases e'
      | _ => cases e
    | _ => cases y <;> cases e
  | _ => cases x <;> cases y <;> cases e

/-! ### comparisons -/
def rCmp (K : PySem.W.Frag) : CmpOp → R2
  | .Lt => fun x y H Q => (rI0 fun i j => .bl (decide (i < j))) x y H Q ∨ rLtT K x y H Q
  | .LtE => rI0 fun i j => .bl (decide (i ≤ j))
  | .Gt => rI0 fun i j => .bl (decide (j < i))
  | .GtE => rI0 fun i j => .bl (decide (j ≤ i))
  | .Eq => rEqD K
  | .NotEq => rNeD K
  | .Is => fun x y H Q => rIsB x y H Q ∨ (y = .non ∧ Q (.bl (decide (x = .non))) H)
  | .IsNot => fun x y H Q => rNotB x y H Q ∨ (y = .non ∧ Q (.bl (!decide (x = .non))) H)
  | .In => fun x y H Q => rInD K x y H Q ∨ rInT K false x y H Q
  | .NotIn => fun x y H Q => rNotInD K x y H Q ∨ rInT K true x y H Q
theorem op_cmp {X : Cx} (hr : Room 1 X.A) : ∀ op : CmpOp, OpR X (compareOp op) (rCmp X.K op)
  | .Lt => op_lt.or (op_ltT hr.units0)
  | .LtE => op_le
  | .Gt => op_gt
  | .GtE => op_ge
  | .Eq => op_eqD hr.units
  | .NotEq => op_neD hr.units
  | .Is => op_isBl.or op_isN
  | .IsNot => op_notBl.or op_notN
  | .In => (op_inD (by have := hr.un; omega)).or (op_inT (by have := hr.un; omega))
  | .NotIn => (op_notInD (by have := hr.un; omega)).or (op_notInT (by have := hr.un; omega))
def cmpB (op : CmpOp) (x y : D) : Option D := (cmpD op x y).map D.bl
theorem isNon_of {A : At} {x : D} {v : V} (r : RelR A x v) : decide (v = .non) = isNon x := by
  cases x with
  | non => rw [show v = V.non from r]; rfl
  | bl b => rw [show v = V.bl b from r]; rfl
  | int b => rw [show v = V.int b from r]; rfl
  | str b => rw [show v = V.str b from r]; rfl
  | tup b => obtain ⟨p, vs, rfl, _⟩ := r; rfl
  | lst b => obtain ⟨p, vs, rfl, _⟩ := r; rfl
  | cell b => obtain ⟨p, _, rfl⟩ := r; rfl
  | fn b => obtain ⟨p, _, rfl⟩ := r; rfl
  | exc b => exact r.elim
  | ty b => rw [show v = V.ty b from r]; rfl
theorem any_pd (a : D) : ∀ xs : List D, (D.pdA xs).any (fun z => PyData.eqv z a.pd) = xs.any fun x => x.eqb a
  | [] => rfl
  | x :: xs => by
    show (PyData.eqv x.pd a.pd || (D.pdA xs).any _) = (x.eqb a || xs.any _)
    rw [any_pd a xs]
    rfl
theorem shA_lst {xs : List D} {n : Nat} (h : D.shA xs n = true) : (D.lst xs).sh (n + 1) = true := h
theorem shA_tup {xs : List D} {n : Nat} (h : D.shA xs n = true) : (D.tup xs).sh (n + 1) = true := h
theorem snd_cmp {K : PySem.W.Frag} (op : CmpOp) : Snd2 K (cmpB op) (rCmp K op) := by
  intro A S x y d v w Q W eK g rx ry e h
  unfold cmpB at e
  cases ec : cmpD op x y with
  | none => rw [ec] at e; cases e
  | some b =>
    rw [ec] at e
    cases e
    have q : Q (.bl b) A.H := val_ok g h rfl
    cases op with
    | Lt =>
      cases x with
      | int i =>
        cases y with
        | int j => cases ec; exact .inl ⟨i, j, rx, ry, q⟩
        | _ => cases ec
      | tup i =>
        cases y with
        | tup j =>
          obtain ⟨p, vs, rfl, h1, h2, h3⟩ := rx
          obtain ⟨r, ws, rfl, k1, k2, k3⟩ := ry
          have ec' : (match intsOf i, intsOf j with
            | some x, some y => some (HT.lexLt x y)
            | _, _ => none) = some b := ec
          split at ec'
          · rename_i ns ms e1 e2
            cases ec'
            rw [h3.ints e1] at h1
            rw [k3.ints e2] at k1
            exact .inr ⟨p, r, ns, ms, rfl, rfl, SqT.of h1, SqT.of k1, q⟩
          · cases ec'
        | _ => cases ec
      | _ => cases y <;> cases ec
    | LtE =>
      cases x with
      | int i =>
        cases y with
        | int j => cases ec; exact ⟨i, j, rx, ry, q⟩
        | _ => cases ec
      | _ => cases y <;> cases ec
    | Gt =>
      cases x with
      | int i =>
        cases y with
        | int j => cases ec; exact ⟨i, j, rx, ry, q⟩
        | _ => cases ec
      | _ => cases y <;> cases ec
    | GtE =>
      cases x with
      | int i =>
        cases y with
        | int j => cases ec; exact ⟨i, j, rx, ry, q⟩
        | _ => cases ec
      | _ => cases y <;> cases ec
    | Eq =>
      have ec' : (if x.sh 60 && y.sh 60 then some (x.eqb y) else none) = some b := by cases x <;> cases y <;> exact ec
      split at ec'
      · rename_i hs
        obtain ⟨s1, s2⟩ := Bool.and_eq_true_iff.mp hs
        cases ec'
        subst eK
        exact ⟨x.pd, y.pd, rx.dp s1, ry.dp s2, sh_shaped s1 (by decide), sh_shaped s2 (by decide), q⟩
      · cases ec'
    | NotEq =>
      have ec' : (if x.sh 60 && y.sh 60 then some (!x.eqb y) else none) = some b := by cases x <;> cases y <;> exact ec
      split at ec'
      · rename_i hs
        obtain ⟨s1, s2⟩ := Bool.and_eq_true_iff.mp hs
        cases ec'
        subst eK
        exact ⟨x.pd, y.pd, rx.dp s1, ry.dp s2, sh_shaped s1 (by decide), sh_shaped s2 (by decide), q⟩
      · cases ec'
    | Is =>
      have hn := isNon_of rx
      cases y with
      | non =>
        have ec' : some (isNon x) = some b := by cases x <;> exact ec
        cases ec'
        exact .inr ⟨ry, by rw [hn]; exact q⟩
      | bl j =>
        cases x with
        | bl i => cases ec; exact .inl ⟨i, j, rx, ry, q⟩
        | _ => cases ec
      | _ => cases x <;> cases ec
    | IsNot =>
      have hn := isNon_of rx
      cases y with
      | non =>
        have ec' : some (!isNon x) = some b := by cases x <;> exact ec
        cases ec'
        exact .inr ⟨ry, by rw [hn]; exact q⟩
      | bl j =>
        cases x with
        | bl i => cases ec; exact .inl ⟨i, j, rx, ry, q⟩
        | _ => cases ec
      | _ => cases x <;> cases ec
    | In =>
      cases y with
      | lst xs =>
        have ec' : (if x.sh 60 && D.shA xs 58 then some (xs.any fun z => z.eqb x) else none) = some b := by cases x <;> exact ec
        split at ec'
        · rename_i hs
          obtain ⟨s1, s2⟩ := Bool.and_eq_true_iff.mp hs
          cases ec'
          subst eK
          exact .inl ⟨x.pd, D.pdA xs, rx.dp s1, ry.dp (shA_lst s2), sh_shaped s1 (by decide), sh_shaped (shA_lst s2) (by decide), by rw [any_pd]; exact q⟩
        · cases ec'
      | tup xs =>
        have ec' : (if x.sh 60 && D.shA xs 58 then some (xs.any fun z => z.eqb x) else none) = some b := by cases x <;> exact ec
        split at ec'
        · rename_i hs
          obtain ⟨s1, s2⟩ := Bool.and_eq_true_iff.mp hs
          cases ec'
          subst eK
          refine .inr ⟨x.pd, D.pdA xs, rx.dp s1, ry.dp (shA_tup s2), sh_shaped s1 (by decide), sh_shaped (shA_tup s2) (by decide), ?_⟩
          rw [any_pd]
          exact q
        · cases ec'
      | _ => cases x <;> cases ec
    | NotIn =>
      cases y with
      | lst xs =>
        have ec' : (if x.sh 60 && D.shA xs 58 then some (!xs.any fun z => z.eqb x) else none) = some b := by cases x <;> exact ec
        split at ec'
        · rename_i hs
          obtain ⟨s1, s2⟩ := Bool.and_eq_true_iff.mp hs
          cases ec'
          subst eK
          exact .inl ⟨x.pd, D.pdA xs, rx.dp s1, ry.dp (shA_lst s2), sh_shaped s1 (by decide), sh_shaped (shA_lst s2) (by decide), by rw [any_pd]; exact q⟩
        · cases ec'
      | tup xs =>
        have ec' : (if x.sh 60 && D.shA xs 58 then some (!xs.any fun z => z.eqb x) else none) = some b := by cases x <;> exact ec
        split at ec'
        · rename_i hs
          obtain ⟨s1, s2⟩ := Bool.and_eq_true_iff.mp hs
          cases ec'
          subst eK
          refine .inr ⟨x.pd, D.pdA xs, rx.dp s1, ry.dp (shA_tup s2), sh_shaped s1 (by decide), sh_shaped (shA_tup s2) (by decide), ?_⟩
          rw [any_pd]
          exact q
        · cases ec'
      | _ => cases x <;> cases ec
end LC

set_option maxHeartbeats 1000000
/-! LC6: sorted, of a list or a tuple of alike data. -/
namespace LC
open PySem PySem.Spec PyProof.Rows L2 PySem.W PySem.Calls
section
variable {prog : Program} {w : World} {A : Around} {E : Value → Shared → Prop} {s : Shared} {β : Type} {vs : List Value} {bs : List β} {enc : β → PyData} {R : Value → β → Prop}
theorem sorted_any {v : Value} {Q : Value → Shared → Prop}
    (hcol : ∀ (A' : Around) (E' : Value → Shared → Prop) (Q' : List Value → Shared → Prop), A'.handled = A.handled → (∀ h', (∀ b o, s.heap.get? b = some o → h'.get? b = some o) → Q' vs { s with heap := h' }) → wpAny (model prog w) A' (collect v) Q' E' s)
    (e : EachIs R vs bs) (er : EachIs (fun v b => ∃ as, Reads s.heap v (enc b) as) vs bs) (hal : AllAlike (bs.map enc)) (hk : Sortable (bs.map enc)) (hL : bs.length ≤ sizeLine) (hu : ∀ b, b ∈ bs → A.units + 2 + (enc b).depth < cLine)
    (h : ∀ (out : List Value) (h' : Heap) (a : Addr) (n : Nat), s.heap.get? a = none → (∀ b o, s.heap.get? b = some o → h'.get? b = some o) → h'.get? a = some (seqObj "list" out.toArray n) → out.length = bs.length → EachIs R out (bs.mergeSort (dataLe false enc)) → Q (.ref a) { s with heap := h' }) :
    wpAny (model prog w) A (call (.builtin "sorted") [v]) Q E s := by
  refine call_function_entry_kw kind_sorted plain_sorted entry_sorted (args_sorted1 _) ?_
  unfold Builtin.«sorted»
  refine wpAny_bind (m := checkCount "sorted" 1 1 _) (wpAny_pure ?_)
  refine wpAny_bind (hcol _ _ _ rfl fun h1 k1 => ?_)
  have hvl : vs.length = bs.length := e.length
  refine wpAny_bind (wpAny_newList ?_ (by rw [hvl]; exact hL))
  have hat : (h1.push (seqObj "list" vs.toArray 0)).get? h1.objs.size = some (seqObj "list" vs.toArray 0) := Heap.get?_push_size _ rfl
  have hne : s.heap.get? h1.objs.size = none := by
    cases q : s.heap.get? h1.objs.size with
    | none => rfl
    | some o => exact absurd (Heap.lt_size (k1 _ _ q)) (Nat.lt_irrefl _)
  have hlt : ∀ b o, s.heap.get? b = some o → b ≠ h1.objs.size := fun b o q => Nat.ne_of_lt (Heap.lt_size (k1 b o q))
  have old : ∀ b o, s.heap.get? b = some o → (h1.push (seqObj "list" vs.toArray 0)).get? b = some o := fun b o q => Heap.get?_push_of_some _ (k1 b o q)
  have er' : EachIs (fun v b => ∃ as, Reads (sortingHeap (h1.push (seqObj "list" vs.toArray 0)) h1.objs.size vs) v (enc b) as) vs bs := er.mono fun _ _ ⟨as, r⟩ => ⟨as, PyProof.Rows.Reads.keeps (fun b o q => sortingHeap_old (hlt b o q) (old b o q)) r⟩
  refine wpAny_bind (wpAny_holding (wpAny_call_entry_kw slot_list_sort ⟨_, hat, rfl⟩ entry_list_sort ?body (args_list_sort _)))
  case body =>
    refine wpAny_mono (list_sort_vals (s := { s with heap := h1.push (seqObj "list" vs.toArray 0) }) (κ := dataKind (sortingHeap (h1.push (seqObj "list" vs.toArray 0)) h1.objs.size vs) (bs.map enc)) hat
      (SortsAt.data (s := { s with heap := sortingHeap (h1.push (seqObj "list" vs.toArray 0)) h1.objs.size vs }) (each_map (R := fun v d => ∃ as, Reads (sortingHeap (h1.push (seqObj "list" vs.toArray 0)) h1.objs.size vs) v d as) enc er') hal hk (bound_map hu)) (by rw [hvl]; exact hL)
      (P := fun f s' => f = .done (.ret .none) ∧ Q (.ref h1.objs.size) s') ⟨rfl, ?_⟩) (fun f s' hf => ?_) fun _ _ e => e
    · obtain ⟨c, hc⟩ := sortedHeap_at (h := h1.push (seqObj "list" vs.toArray 0)) (a := h1.objs.size) (vs := vs) (n := 0) (out := (sortVals (dataKind (sortingHeap (h1.push (seqObj "list" vs.toArray 0)) h1.objs.size vs) (bs.map enc)) false vs vs).toArray) hat
      refine h _ _ _ c hne (fun b o q => ?_) hc (by rw [sortVals_length false rfl]; exact hvl) (sortVals_data false e er' hal)
      rw [sortedHeap_old (hlt b o q) (Heap.lt_size (old b o q))]
      exact old b o q
    · obtain ⟨rfl, hq⟩ := hf
      exact ⟨_, rfl, wpAny_pure ⟨_, rfl, hq⟩⟩
end
theorem EachIs.zipV {R : Value → V → Prop} : ∀ {its : List Value} {xs : List V}, Vals xs its → (∀ v x, RelV x v → R v x) → EachIs R its xs
  | _, _, .nil, _ => .nil
  | _, _, .cons r t, h => .cons (h _ _ r) (EachIs.zipV t h)
/-- the sorted places -/
def sortP (ps : List (V × PyData)) : List (V × PyData) := ps.mergeSort (dataLe false Prod.snd)
def rSortG (K : PySem.W.Frag) (A : Around) : List V → Hp → VK → Prop := fun vs H Q => ∃ (a : Addr) (xs : List V) (ds : List PyData), vs = [V.ref a] ∧ (SqL K H a xs ∨ SqT K H a xs) ∧ DpAll K H xs ds ∧ AllAlike ds ∧ Sortable ds ∧ (∀ d ∈ ds, A.units + 2 + d.depth < cLine) ∧
  ∀ p, H p = none → Q (.ref p) (upd H p (.lst ((sortP (xs.zip ds)).map Prod.fst)))
theorem dpAll_len {K : PySem.W.Frag} {H : Hp} : ∀ {vs : List V} {ds : List PyData}, DpAll K H vs ds → vs.length = ds.length
  | _, _, .nil => rfl
  | _, _, .cons _ t => by rw [List.length_cons, List.length_cons, dpAll_len t]
theorem each_zip {R : Value → V × PyData → Prop} : ∀ {its : List Value} {xs : List V} {ds : List PyData}, Vals xs its → xs.length = ds.length → (∀ v x d, RelV x v → R v (x, d)) → EachIs R its (xs.zip ds)
  | _, _, [], .nil, _, _ => .nil
  | _, _, d :: ds, .cons r t, hl, h => .cons (h _ _ _ r) (each_zip t (by simpa using hl) h)
  | _, _, [], .cons r t, hl, h => by cases hl
  | _, _, d :: ds, .nil, hl, h => by cases hl
theorem each_reads {h : Heap} : ∀ {its : List Value} {xs : List V} {ds : List PyData} {as : List Addr}, Vals xs its → ReadsAll h its ds as → EachIs (fun v (b : V × PyData) => ∃ as, Reads h v b.2 as) its (xs.zip ds)
  | _, _, [], _, .nil, r => .nil
  | _, _, d :: ds, _, .cons r t, q => by
    cases q with
    | cons h1 h2 => exact .cons ⟨_, h1⟩ (each_reads t h2)
  | _, _, [], _, .cons r t, q => by cases q
  | _, _, d :: ds, _, .nil, q => by cases q
theorem vals_of_each {ps : List (V × PyData)} : ∀ {out : List Value}, EachIs (fun v (b : V × PyData) => RelV b.1 v) out ps → Vals (ps.map Prod.fst) out := by
  induction ps with
  | nil =>
    intro out e
    cases e
    exact .nil
  | cons p ps ih =>
    intro out e
    cases e with
    | cons h t => exact .cons h (ih t)
theorem cr_sortG {X : Cx} (hh : X.A.handled = none) : CallR X (.builtin "sorted") (rSortG X.K X.A) := by
  intro pins s σ H vs us Q I r h
  obtain ⟨a, xs, ds, rfl, hs, hd, hal, hk, hu, q⟩ := h
  rw [Vals.ref1 r]
  have core : ∀ (its : List Value), Vals xs its → xs.length ≤ sizeLine → (∃ (T : String) (o : Obj) (n : Nat), (T = "list" ∨ T = "tuple") ∧ s.heap.get? a = some o ∧ o.cls = .type T ∧ o.data = .seq its.toArray n) →
      wpAny (model X.prog X.w) X.A (call (.builtin "sorted") [.ref a]) (EP X pins σ Q) X.xe s := fun its rv hz ⟨T, o, n, hT, ho, hc, hdt⟩ => by
    have hl : xs.length = ds.length := dpAll_len hd
    obtain ⟨as, hr⟩ := Dp.readsAll I ds xs its hd rv
    have em : (xs.zip ds).map Prod.snd = ds := List.map_snd_zip (by omega)
    refine sorted_any (bs := xs.zip ds) (enc := Prod.snd) (R := fun v b => RelV b.1 v) (fun A' E' Q' hA k => wpAny_collect_seq a hT ho hc hdt (fun h' k' => k h' k') (by rw [List.size_toArray, ← rv.length]; exact hz))
      (each_zip rv hl fun _ _ _ r => r) (each_reads rv hr) (by rw [em]; exact hal) (by rw [em]; exact hk) (by rw [List.length_zip]; omega) (fun b hb => hu b.2 (by rw [← em]; exact List.mem_map.mpr ⟨b, hb, rfl⟩)) fun out h' p n hn kp hat hlen hout => ?_
    have hnH : H p = none := I.hok.gone hn
    have hv : Vals ((sortP (xs.zip ds)).map Prod.fst) out := vals_of_each hout
    exact ⟨.ref p, upd H p (.lst ((sortP (xs.zip ds)).map Prod.fst)), I.laidN (t' := s.toks) kp hn hnH ⟨by rw [hv.length, hlen, List.length_zip]; omega, out, n, hv, hat⟩, rfl, q p hnH⟩
  rcases hs with hs | hs
  · obtain ⟨its, rv, ⟨o, n, ho, hc, _, hdt⟩, hz⟩ := I.list hs
    exact core its rv hz ⟨"list", o, n, .inl rfl, ho, hc, hdt⟩
  · obtain ⟨its, rv, ⟨o, ho, hc, n, hdt⟩, hz⟩ := I.tuple hs
    exact core its rv hz ⟨"tuple", o, n, .inr rfl, ho, hc, hdt⟩
end LC

set_option maxHeartbeats 1000000
/-! LC7: arguments, displays, indices, slices, the built-ins. -/
namespace LC
open PySem PySem.Spec PyProof.Rows L2

/-! ### the built-ins, by values -/
inductive BF where
  | len | abs | all | any | sum | max | min | sorted | tuple | list | int
  deriving DecidableEq
def maxL : List Int → Int
  | [] => 0
  | [a] => a
  | a :: b :: r => max a (maxL (b :: r))
def minL : List Int → Int
  | [] => 0
  | [a] => a
  | a :: b :: r => min a (minL (b :: r))
theorem maxL_spec : ∀ {ns : List Int}, ns ≠ [] → maxL ns ∈ ns ∧ ∀ y ∈ ns, y ≤ maxL ns
  | [], h => absurd rfl h
  | [a], _ => by simp [maxL]
  | a :: b :: r, _ => by
    obtain ⟨h1, h2⟩ := maxL_spec (ns := b :: r) (by simp)
    have e : maxL (a :: b :: r) = max a (maxL (b :: r)) := rfl
    rw [e]
    refine ⟨?_, fun y hy => ?_⟩
    · rcases Int.le_total a (maxL (b :: r)) with q | q
      · rw [Int.max_eq_right q]; exact List.mem_cons_of_mem _ h1
      · rw [Int.max_eq_left q]; exact List.mem_cons_self
    · rcases List.mem_cons.mp hy with rfl | hy
      · exact Int.le_max_left _ _
      · exact Int.le_trans (h2 y hy) (Int.le_max_right _ _)
theorem minL_spec : ∀ {ns : List Int}, ns ≠ [] → minL ns ∈ ns ∧ ∀ y ∈ ns, minL ns ≤ y
  | [], h => absurd rfl h
  | [a], _ => by simp [minL]
  | a :: b :: r, _ => by
    obtain ⟨h1, h2⟩ := minL_spec (ns := b :: r) (by simp)
    have e : minL (a :: b :: r) = min a (minL (b :: r)) := rfl
    rw [e]
    refine ⟨?_, fun y hy => ?_⟩
    · rcases Int.le_total a (minL (b :: r)) with q | q
      · rw [Int.min_eq_left q]; exact List.mem_cons_self
      · rw [Int.min_eq_right q]; exact List.mem_cons_of_mem _ h1
    · rcases List.mem_cons.mp hy with rfl | hy
      · exact Int.min_le_left _ _
      · exact Int.le_trans (Int.min_le_right _ _) (h2 y hy)
def alikeB (ds : List PyData) : Bool := ds.all fun a => ds.all fun b => PySem.W.alike a b
def neTup : D → Bool
  | .tup (_ :: _) => true
  | _ => false
def noTup : D → Bool
  | .tup _ => false
  | .non => false
  | _ => true
def sortOk (xs : List D) : Bool := alikeB (D.pdA xs) && (D.shA xs 58 && (xs.all neTup || xs.all noTup))
def sortD (xs : List D) : List D := xs.mergeSort (PySem.W.dataLe false D.pd)
def fB : BF → Store → List D → Option D
  | .len, S, [x] => match vw S x with
    | .tup xs => some (.int xs.length)
    | .lst xs => some (.int xs.length)
    | .str z => if z.length ≤ line then some (.int z.length) else none
    | _ => none
  | .abs, _, [.int i] => some (.int (if i < 0 then -i else i))
  | .all, S, [x] => match vw S x with
    | .lst xs => (blsOf xs).map fun b => .bl (b.all id)
    | _ => none
  | .any, S, [x] => match vw S x with
    | .lst xs => (blsOf xs).map fun b => .bl (b.any id)
    | _ => none
  | .sum, S, [x] => match vw S x with
    | .lst xs => (intsOf xs).map fun b => .int b.sum
    | _ => none
  | .max, S, [x] => match vw S x with
    | .lst (y :: xs) => (intsOf (y :: xs)).map fun b => .int (maxL b)
    | _ => none
  | .min, S, [x] => match vw S x with
    | .lst (y :: xs) => (intsOf (y :: xs)).map fun b => .int (minL b)
    | _ => none
  | .max, _, [.int i, .int j] => some (.int (if j > i then j else i))
  | .min, _, [.int i, .int j] => some (.int (if j < i then j else i))
  | .sorted, S, [x] => match vw S x with
    | .tup xs => if sortOk xs then some (.lst (sortD xs)) else none
    | .lst xs => if sortOk xs then some (.lst (sortD xs)) else none
    | _ => none
  | .tuple, S, [x] => match vw S x with
    | .tup xs => some (.tup xs)
    | .lst xs => some (.tup xs)
    | _ => none
  | .list, S, [x] => match vw S x with
    | .tup xs => some (.lst xs)
    | .lst xs => some (.lst xs)
    | _ => none
  | .int, _, [.int i] => some (.int i)
  | .int, _, [.bl b] => some (.int (if b then 1 else 0))
  | _, _, _ => none
def SndA (K : PySem.W.Frag) (f : Store → List D → Option D) (r : List V → Hp → VK → Prop) : Prop :=
  ∀ (A : At) (S : Store) (ds : List D) (d : D) (vs : List V) (Q : VK) (W : XK), A.K = K → Gd A S → RelL A ds vs → f S ds = some d → Post Rel A (.ok d S) Q W → r vs A.H Q
theorem SndA.or1 {K : PySem.W.Frag} {f : Store → List D → Option D} {r r' : List V → Hp → VK → Prop} (h : SndA K f r) : SndA K f (fun x H Q => r x H Q ∨ r' x H Q) := fun A S x d v Q W k g a e p => .inl (h A S x d v Q W k g a e p)

theorem sort_rel {A : At} {ds : List D} {vs : List V} (r : RelL A ds vs) : RelL A (sortD ds) ((sortP (vs.zip (D.pdA ds))).map Prod.fst) := by
  have hl := r.len
  -- the pairs of value and datum
  have h1 : sortP (vs.zip (D.pdA ds)) = ((vs.zip ds).mergeSort (PySem.W.dataLe false fun p : V × D => p.2.pd)).map fun p => (p.1, p.2.pd) := by
    have e : vs.zip (D.pdA ds) = (vs.zip ds).map fun p => (p.1, p.2.pd) := by
      rw [pdA_map, ← List.map_id vs, List.zip_map]
      simp [Prod.map]
    unfold sortP
    rw [e]
    exact (List.map_mergeSort (f := fun p : V × D => (p.1, p.2.pd)) (r := PySem.W.dataLe false fun p : V × D => p.2.pd) (s := PySem.W.dataLe false Prod.snd) (l := vs.zip ds) fun _ _ _ _ => rfl).symm
  have h2 : sortD ds = ((vs.zip ds).mergeSort (PySem.W.dataLe false fun p : V × D => p.2.pd)).map Prod.snd := by
    unfold sortD
    have e : ds = (vs.zip ds).map Prod.snd := (List.map_snd_zip (by omega)).symm
    conv => lhs; rw [e]
    exact (List.map_mergeSort (f := (Prod.snd : V × D → D)) (r := PySem.W.dataLe false fun p : V × D => p.2.pd) (s := PySem.W.dataLe false D.pd) (l := vs.zip ds) fun _ _ _ _ => rfl).symm
  rw [h1, h2, List.map_map]
  have hall : ∀ p ∈ vs.zip ds, Rel A p.2 p.1 := by
    clear h1 h2 hl
    induction ds generalizing vs with
    | nil => intro p hp; simp at hp
    | cons d ds ih =>
      obtain ⟨v, q, rfl, k1, k2⟩ := r
      intro p hp
      rw [List.zip_cons_cons] at hp
      rcases List.mem_cons.mp hp with rfl | hp
      · exact k1
      · exact ih k2 p hp
  have hall2 : ∀ p ∈ (vs.zip ds).mergeSort (PySem.W.dataLe false fun p : V × D => p.2.pd), Rel A p.2 p.1 := fun p hp => hall p (List.mem_mergeSort.mp hp)
  revert hall2
  generalize (vs.zip ds).mergeSort (PySem.W.dataLe false fun p : V × D => p.2.pd) = zs
  intro hall2
  induction zs with
  | nil => exact .nil
  | cons z zs ih => exact .cons (hall2 z List.mem_cons_self) (ih fun p hp => hall2 p (List.mem_cons_of_mem _ hp))
theorem sortD_len (xs : List D) : (sortD xs).length = xs.length := List.length_mergeSort ..
theorem alikeB_ok {ds : List PyData} (h : alikeB ds = true) : PySem.W.AllAlike ds := fun d hd d' hd' => List.all_eq_true.mp (List.all_eq_true.mp h d hd) d' hd'
theorem shA_mem {n : Nat} : ∀ {xs : List D} {x : D}, D.shA xs n = true → x ∈ xs → x.sh n = true
  | [], _, _, hx => by cases hx
  | z :: zs, x, hs, hx => by
    obtain ⟨a, b⟩ := Bool.and_eq_true_iff.mp (show (D.sh z n && D.shA zs n) = true from hs)
    rcases List.mem_cons.mp hx with rfl | hx
    · exact a
    · exact shA_mem b hx
theorem sortable_ok {xs : List D} (h : (xs.all neTup || xs.all noTup) = true) (hs : D.shA xs 58 = true) : PySem.W.Sortable (D.pdA xs) := by
  rw [pdA_map]
  rcases Bool.or_eq_true_iff.mp h with h | h
  · refine .inl fun d hd => ?_
    obtain ⟨x, hx, rfl⟩ := List.mem_map.mp hd
    have := List.all_eq_true.mp h x hx
    cases x with
    | tup ys =>
      cases ys with
      | nil => cases this
      | cons y ys => exact ⟨y.pd, D.pdA ys, rfl⟩
    | _ => cases this
  · refine .inr fun d hd => ?_
    obtain ⟨x, hx, rfl⟩ := List.mem_map.mp hd
    have hx2 := List.all_eq_true.mp h x hx
    have hsx : x.sh 58 = true := shA_mem hs hx
    cases x with
    | tup ys => cases hx2
    | non => cases hx2
    | bl b => exact ⟨(fun z => by cases z), (fun _ z => by cases z)⟩
    | int b => exact ⟨(fun z => by cases z), (fun _ z => by cases z)⟩
    | str b => exact ⟨(fun z => by cases z), (fun _ z => by cases z)⟩
    | lst b => exact ⟨(fun z => by cases z), (fun _ z => by cases z)⟩
    | cell b => cases hsx
    | fn b => cases hsx
    | exc b => cases hsx
    | ty b => cases hsx
theorem depth_ok {ds : List PyData} {n : Nat} (h : PyData.depthAll ds ≤ n) : ∀ d ∈ ds, d.depth ≤ n := by
  induction ds with
  | nil => intro d hd; cases hd
  | cons x xs ih =>
    have h' : max x.depth (PyData.depthAll xs) ≤ n := h
    intro d hd
    rcases List.mem_cons.mp hd with rfl | hd
    · exact Nat.le_trans (Nat.le_max_left _ _) h'
    · exact ih (Nat.le_trans (Nat.le_max_right _ _) h') d hd
def rBF (K : PySem.W.Frag) (A : Around) : BF → List V → Hp → VK → Prop
  | .len => fun xs H Q => (∃ p ys, xs = [.ref p] ∧ (SqL K H p ys ∨ SqT K H p ys) ∧ Q (.int ys.length) H) ∨ (∃ z : Str, xs = [.str z] ∧ z.length ≤ sizeLine ∧ Q (.int z.length) H)
  | .abs => fun xs H Q => ∃ i, xs = [.int i] ∧ Q (.int (if i < 0 then -i else i)) H
  | .all => rAll K
  | .any => rAny K
  | .sum => rSum K
  | .max => fun xs H Q => rMax K xs H Q ∨ (∃ i j, xs = [.int i, .int j] ∧ Q (.int (if j > i then j else i)) H)
  | .min => fun xs H Q => rMin K xs H Q ∨ (∃ i j, xs = [.int i, .int j] ∧ Q (.int (if j < i then j else i)) H)
  | .sorted => rSortG K A
  | .tuple => fun xs H Q => ∃ p ys, xs = [.ref p] ∧ ((SqL K H p ys ∧ ∀ l, H l = none → Q (.ref l) (upd H l (.tup ys))) ∨ (SqT K H p ys ∧ Q (.ref p) H))
  | .list => fun xs H Q => ∃ p ys, xs = [.ref p] ∧ (SqL K H p ys ∨ SqT K H p ys) ∧ ∀ l, H l = none → Q (.ref l) (upd H l (.lst ys))
  | .int => fun xs H Q => (∃ i, xs = [.int i] ∧ Q (.int i) H) ∨ ∃ k, xs = [.bl k] ∧ Q (.int (if k then 1 else 0)) H
def BF.isTy : BF → Bool
  | .tuple => true
  | .list => true
  | .int => true
  | _ => false
def BF.id : BF → String
  | .len => "len" | .abs => "abs" | .all => "all" | .any => "any" | .sum => "sum" | .max => "max" | .min => "min" | .sorted => "sorted" | .tuple => "tuple" | .list => "list" | .int => "int"
def BF.val (b : BF) : Value := if b.isTy then .type b.id else .builtin b.id
theorem call_bf {X : Cx} (hc : X.calm = true) (hh : X.A.handled = none) : ∀ b : BF, CallR X b.val (rBF X.K X.A b)
  | .len => call_len_seq.or call_len_str
  | .abs => call_abs
  | .all => cr_all hc
  | .any => cr_any hc
  | .sum => cr_sum hc
  | .max => (cr_max hc).or (call_max2 hc)
  | .min => (cr_min hc).or (call_min2 hc)
  | .sorted => cr_sortG hh
  | .tuple => call_tuple_of
  | .list => call_list_of
  | .int => call_int1
theorem RelL.one' {A : At} {d : D} {vs : List V} (h : RelL A [d] vs) : ∃ v, vs = [v] ∧ Rel A d v := by
  obtain ⟨v, r, rfl, h1, h2⟩ := h
  rw [show r = [] from h2]
  exact ⟨v, rfl, h1⟩
theorem RelL.two' {A : At} {d e : D} {vs : List V} (h : RelL A [d, e] vs) : ∃ v w, vs = [v, w] ∧ Rel A d v ∧ Rel A e w := by
  obtain ⟨v, r, rfl, h1, h2⟩ := h
  obtain ⟨w, rfl, h3⟩ := h2.one'
  exact ⟨v, w, rfl, h1, h3⟩
theorem snd_bf {K : PySem.W.Frag} {Ar : Around} (hu : Ar.units + 70 < cLine) (b : BF) : SndA K (fB b) (rBF K Ar b) := by
  intro A S ds d vs Q W eK g r e h
  subst eK
  cases b with
  | len =>
    match ds, e with
    | [x], e =>
      obtain ⟨v, rfl, r1⟩ := r.one'
      have r2 := vw_rel g r1
      have e' : (match vw S x with
        | .tup xs => some (D.int xs.length)
        | .lst xs => some (.int xs.length)
        | .str z => if z.length ≤ line then some (.int z.length) else none
        | _ => none) = some d := e
      cases q : vw S x with
      | tup xs =>
        rw [q] at e' r2
        cases e'
        obtain ⟨p, ws, rfl, h1, h2, h3⟩ := r2
        exact .inl ⟨p, ws, rfl, .inr (SqT.of h1), val_ok g h (by show V.int _ = V.int _; rw [h3.len])⟩
      | lst xs =>
        rw [q] at e' r2
        cases e'
        obtain ⟨p, ws, rfl, h1, h2, h3⟩ := r2
        exact .inl ⟨p, ws, rfl, .inl h1, val_ok g h (by show V.int _ = V.int _; rw [h3.len])⟩
      | str z =>
        rw [q] at e' r2
        simp only at e'
        split at e'
        · rename_i hz
          cases e'
          rw [line_eq] at hz
          exact .inr ⟨z, by rw [show v = V.str z from r2], hz, val_ok g h rfl⟩
        · cases e'
      | _ => rw [q] at e'; cases e'
  | abs =>
    match ds, e with
    | [.int i], e =>
      obtain ⟨v, rfl, r1⟩ := r.one'
      cases e
      exact ⟨i, by rw [show v = V.int i from r1], val_ok g h rfl⟩
  | all =>
    match ds, e with
    | [x], e =>
      obtain ⟨v, rfl, r1⟩ := r.one'
      have r2 := vw_rel g r1
      have e' : (match vw S x with
        | .lst xs => (blsOf xs).map fun b => D.bl (b.all id)
        | _ => none) = some d := e
      cases q : vw S x with
      | lst xs =>
        rw [q] at e' r2
        obtain ⟨p, ws, rfl, h1, h2, h3⟩ := r2
        simp only at e'
        cases eb : blsOf xs with
        | none => rw [eb] at e'; cases e'
        | some bs =>
          rw [eb] at e'
          cases e'
          rw [h3.bls eb] at h1
          exact ⟨p, bs, rfl, h1, val_ok g h rfl⟩
      | _ => rw [q] at e'; cases e'
  | any =>
    match ds, e with
    | [x], e =>
      obtain ⟨v, rfl, r1⟩ := r.one'
      have r2 := vw_rel g r1
      have e' : (match vw S x with
        | .lst xs => (blsOf xs).map fun b => D.bl (b.any id)
        | _ => none) = some d := e
      cases q : vw S x with
      | lst xs =>
        rw [q] at e' r2
        obtain ⟨p, ws, rfl, h1, h2, h3⟩ := r2
        simp only at e'
        cases eb : blsOf xs with
        | none => rw [eb] at e'; cases e'
        | some bs =>
          rw [eb] at e'
          cases e'
          rw [h3.bls eb] at h1
          exact ⟨p, bs, rfl, h1, val_ok g h rfl⟩
      | _ => rw [q] at e'; cases e'
  | sum =>
    match ds, e with
    | [x], e =>
      obtain ⟨v, rfl, r1⟩ := r.one'
      have r2 := vw_rel g r1
      have e' : (match vw S x with
        | .lst xs => (intsOf xs).map fun b => D.int b.sum
        | _ => none) = some d := e
      cases q : vw S x with
      | lst xs =>
        rw [q] at e' r2
        obtain ⟨p, ws, rfl, h1, h2, h3⟩ := r2
        simp only at e'
        cases eb : intsOf xs with
        | none => rw [eb] at e'; cases e'
        | some bs =>
          rw [eb] at e'
          cases e'
          rw [h3.ints eb] at h1
          exact ⟨p, bs, rfl, h1, val_ok g h rfl⟩
      | _ => rw [q] at e'; cases e'
  | max =>
    match ds, e with
    | [x], e =>
      obtain ⟨v, rfl, r1⟩ := r.one'
      have r2 := vw_rel g r1
      have e' : (match vw S x with
        | .lst (y :: xs) => (intsOf (y :: xs)).map fun b => D.int (maxL b)
        | _ => none) = some d := by
        cases x <;> exact e
      cases q : vw S x with
      | lst xs =>
        rw [q] at e' r2
        obtain ⟨p, ws, rfl, h1, h2, h3⟩ := r2
        cases xs with
        | nil => cases e'
        | cons y xs =>
          simp only at e'
          cases eb : intsOf (y :: xs) with
          | none => rw [eb] at e'; cases e'
          | some bs =>
            rw [eb] at e'
            cases e'
            have hws := h3.ints eb
            have hne : bs ≠ [] := fun z => by
              have := h3.len
              rw [hws, z] at this
              cases this
            rw [hws] at h1
            refine .inl ⟨p, bs, rfl, h1, List.length_pos_iff.mpr hne, fun m hm hy => ?_⟩
            obtain ⟨k1, k2⟩ := maxL_spec hne
            have em : m = maxL bs := Int.le_antisymm (k2 m hm) (hy _ k1)
            rw [em]
            exact val_ok g h rfl
      | _ => rw [q] at e'; cases e'
    | [.int i, .int j], e =>
      obtain ⟨v, w, rfl, r1, r2⟩ := r.two'
      cases e
      exact .inr ⟨i, j, by rw [show v = V.int i from r1, show w = V.int j from r2], val_ok g h rfl⟩
  | min =>
    match ds, e with
    | [x], e =>
      obtain ⟨v, rfl, r1⟩ := r.one'
      have r2 := vw_rel g r1
      have e' : (match vw S x with
        | .lst (y :: xs) => (intsOf (y :: xs)).map fun b => D.int (minL b)
        | _ => none) = some d := by
        cases x <;> exact e
      cases q : vw S x with
      | lst xs =>
        rw [q] at e' r2
        obtain ⟨p, ws, rfl, h1, h2, h3⟩ := r2
        cases xs with
        | nil => cases e'
        | cons y xs =>
          simp only at e'
          cases eb : intsOf (y :: xs) with
          | none => rw [eb] at e'; cases e'
          | some bs =>
            rw [eb] at e'
            cases e'
            have hws := h3.ints eb
            have hne : bs ≠ [] := fun z => by
              have := h3.len
              rw [hws, z] at this
              cases this
            rw [hws] at h1
            refine .inl ⟨p, bs, rfl, h1, List.length_pos_iff.mpr hne, fun m hm hy => ?_⟩
            obtain ⟨k1, k2⟩ := minL_spec hne
            have em : m = minL bs := Int.le_antisymm (hy _ k1) (k2 m hm)
            rw [em]
            exact val_ok g h rfl
      | _ => rw [q] at e'; cases e'
    | [.int i, .int j], e =>
      obtain ⟨v, w, rfl, r1, r2⟩ := r.two'
      cases e
      exact .inr ⟨i, j, by rw [show v = V.int i from r1, show w = V.int j from r2], val_ok g h rfl⟩
  | sorted =>
    match ds, e with
    | [x], e =>
      obtain ⟨v, rfl, r1⟩ := r.one'
      have r2 := vw_rel g r1
      have e' : (match vw S x with
        | .tup xs => if sortOk xs then some (D.lst (sortD xs)) else none
        | .lst xs => if sortOk xs then some (.lst (sortD xs)) else none
        | _ => none) = some d := e
      have fin : ∀ (xs : List D) (p : Addr) (ws : List V), (if sortOk xs then some (D.lst (sortD xs)) else none) = some d → (SqL A.K A.H p ws ∨ SqT A.K A.H p ws) → xs.length ≤ sizeLine → RelL A xs ws → rSortG A.K Ar [V.ref p] A.H Q := fun xs p ws e1 h1 h2 h3 => by
        split at e1
        · rename_i hs
          cases e1
          obtain ⟨s1, s2⟩ := Bool.and_eq_true_iff.mp hs
          obtain ⟨s2, s3⟩ := Bool.and_eq_true_iff.mp s2
          refine ⟨p, ws, D.pdA xs, rfl, h1, RelL.dp xs ws 58 s2 h3, alikeB_ok s1, sortable_ok s3 s2, fun z hz => ?_, fun l n => new_lst g (sort_rel h3) (by rw [sortD_len]; exact h2) h n⟩
          have := depth_ok (shA_can xs 58 s2).2 z hz
          omega
        · cases e1
      cases q : vw S x with
      | tup xs =>
        rw [q] at e' r2
        obtain ⟨p, ws, rfl, h1, h2, h3⟩ := r2
        exact fin xs p ws e' (.inr (SqT.of h1)) h2 h3
      | lst xs =>
        rw [q] at e' r2
        obtain ⟨p, ws, rfl, h1, h2, h3⟩ := r2
        exact fin xs p ws e' (.inl h1) h2 h3
      | _ => rw [q] at e'; cases e'
  | tuple =>
    match ds, e with
    | [x], e =>
      obtain ⟨v, rfl, r1⟩ := r.one'
      have r2 := vw_rel g r1
      have e' : (match vw S x with
        | .tup xs => some (D.tup xs)
        | .lst xs => some (.tup xs)
        | _ => none) = some d := e
      cases q : vw S x with
      | tup xs =>
        rw [q] at e' r2
        cases e'
        obtain ⟨p, ws, rfl, h1, h2, h3⟩ := r2
        exact ⟨p, ws, rfl, .inr ⟨SqT.of h1, val_ok g h ⟨p, ws, rfl, h1, h2, h3⟩⟩⟩
      | lst xs =>
        rw [q] at e' r2
        cases e'
        obtain ⟨p, ws, rfl, h1, h2, h3⟩ := r2
        exact ⟨p, ws, rfl, .inl ⟨h1, fun l n => new_tup g h3 h2 h n⟩⟩
      | _ => rw [q] at e'; cases e'
  | list =>
    match ds, e with
    | [x], e =>
      obtain ⟨v, rfl, r1⟩ := r.one'
      have r2 := vw_rel g r1
      have e' : (match vw S x with
        | .tup xs => some (D.lst xs)
        | .lst xs => some (.lst xs)
        | _ => none) = some d := e
      cases q : vw S x with
      | tup xs =>
        rw [q] at e' r2
        cases e'
        obtain ⟨p, ws, rfl, h1, h2, h3⟩ := r2
        exact ⟨p, ws, rfl, .inr (SqT.of h1), fun l n => new_lst g h3 h2 h n⟩
      | lst xs =>
        rw [q] at e' r2
        cases e'
        obtain ⟨p, ws, rfl, h1, h2, h3⟩ := r2
        exact ⟨p, ws, rfl, .inl h1, fun l n => new_lst g h3 h2 h n⟩
      | _ => rw [q] at e'; cases e'
  | int =>
    match ds, e with
    | [.int i], e =>
      obtain ⟨v, rfl, r1⟩ := r.one'
      cases e
      exact .inl ⟨i, by rw [show v = V.int i from r1], val_ok g h rfl⟩
    | [.bl i], e =>
      obtain ⟨v, rfl, r1⟩ := r.one'
      cases e
      exact .inr ⟨i, by rw [show v = V.bl i from r1], val_ok g h rfl⟩
end LC

set_option maxHeartbeats 1000000
/-! LC8: argument lists, displays, indices, slices, calls of built-ins, tests, and, or, not, chains. -/
namespace LC
open PySem PySem.Spec PyProof.Rows L2
section
variable {X : Cx} {K : PySem.W.Frag} {mg : Str → Option Value} {W : WX} {pos p p2 : Pos} {a b c e : Expr} {es rest : List Expr} {ea eb ec ed : Env → M D} {el : Env → M (List D)}

/-! ### argument lists -/
def isStar : Expr → Bool
  | .Starred .. => true
  | _ => false
theorem star_of {env : PySem.Env} (h : isStar e = false) : starEach (e :: es) env = (false, eval e env) :: starEach es env := by
  cases e <;> first | rfl | cases h
theorem star_any {env : PySem.Env} : ∀ {es : List Expr}, (∀ e ∈ es, isStar e = false) → (backTo pos (starEach es env)).any (·.1) = false
  | [], _ => by simp [starEach, backTo]
  | e :: es, h => by
    have h1 := star_any (env := env) (es := es) fun x hx => h x (List.mem_cons_of_mem _ hx)
    rw [star_of (h e List.mem_cons_self)]
    have e1 : ∀ l : List (Bool × Sem Value), (backTo pos l).any (·.1) = l.any (·.1) := fun l => by
      unfold backTo
      rw [List.any_map]
      rfl
    rw [e1] at h1 ⊢
    show (false || (starEach es env).any (·.1)) = false
    rw [h1]
    rfl
def argsNil : Env → M (List D) := fun _ => M.pure []
def argsCons (ea : Env → M D) (el : Env → M (List D)) : Env → M (List D) := fun ρ => M.bind (ea ρ) fun x => M.bind (el ρ) fun xs => M.pure (x :: xs)
theorem sA_nil : PA X [] (TAv K mg W argsNil) := pa_nil.less fun σ H Q h => by
  obtain ⟨A, ρ, S, rfl, rfl, rfl, g, _, h⟩ := h
  exact h [] A (Ext.refl A) g rfl
theorem sA_cons (hs : isStar e = false) (ha : PE X e (TEv K mg W ea)) (hr : PA X es (TAv K mg W el)) : PA X (e :: es) (TAv K mg W (argsCons ea el)) :=
  (pa_cons ha hr (star_of hs)).less fun σ H Q h => by
    obtain ⟨A, ρ, S, eK, em, eH, g, r1, h⟩ := h
    refine ⟨A, ρ, S, eK, em, eH, g, r1, Rdg.bind h fun x S1 v B _ x1 g1 q1 h1 => ?_⟩
    refine ⟨B, ρ, S1, x1.K.trans eK, x1.mg.trans em, rfl, g1, r1.step (x1.step g), Rdg.bind h1 fun xs S2 vs C _ x2 g2 q2 h2 => ?_⟩
    exact h2 (v :: vs) C (Ext.refl C) g2 (.cons (Rel.step (x2.step g1) _ _ q1) q2)
/-- what a number of arguments comes to -/
def LenIs (el : Env → M (List D)) (n : Nat) : Prop := ∀ ρ S ds S', el ρ S = .ok ds S' → ds.length = n
theorem lenIs_nil : LenIs argsNil 0 := fun ρ S ds S' h => by
  cases h
  rfl
theorem lenIs_cons {n : Nat} (h : LenIs el n) : LenIs (argsCons ea el) (n + 1) := fun ρ S ds S' q => by
  unfold argsCons at q
  simp only [M.bind_ap] at q
  cases e1 : ea ρ S with
  | ok x S1 =>
    rw [e1] at q
    simp only [R.bind_ok, M.bind_ap] at q
    cases e2 : el ρ S1 with
    | ok xs S2 =>
      rw [e2] at q
      simp only [R.bind_ok, M.pure_ap] at q
      cases q
      rw [List.length_cons, h _ _ _ _ e2]
    | exc x S1 => rw [e2] at q; cases q
    | bad => rw [e2] at q; cases q
  | exc x S1 => rw [e1] at q; cases q
  | bad => rw [e1] at q; cases q

/-! ### displays -/
def disp (mk : List D → D) (el : Env → M (List D)) : Env → M D := fun ρ => M.bind (el ρ) fun ds => M.pure (mk ds)
theorem sE_tup {k n : Nat} (hl : LenIs el n) (hn : n ≤ 1000) (h : PA X es (TAv K mg W el)) : PE X (.Tuple es k pos) (TEv K mg W (disp .tup el)) :=
  (pe_tup h).less fun σ H Q h => by
    obtain ⟨A, ρ, S, eK, em, eH, g, r1, h⟩ := h
    refine ⟨A, ρ, S, eK, em, eH, g, r1, Rdg.bind h fun xs S1 vs B eq x1 g1 q1 h1 => ?_⟩
    have e1 := hl _ _ _ _ eq
    have hz : xs.length ≤ sizeLine := by rw [e1, sizeLine_eq]; omega
    exact ⟨by rw [q1.len]; exact hz, fun p n => new_tup g1 q1 hz h1 n⟩
theorem sE_lst {n : Nat} (hl : LenIs el n) (hn : n ≤ 1000) (h : PA X es (TAv K mg W el)) : PE X (.List es pos) (TEv K mg W (disp .lst el)) :=
  (pe_lst h).less fun σ H Q h => by
    obtain ⟨A, ρ, S, eK, em, eH, g, r1, h⟩ := h
    refine ⟨A, ρ, S, eK, em, eH, g, r1, Rdg.bind h fun xs S1 vs B eq x1 g1 q1 h1 => ?_⟩
    have e1 := hl _ _ _ _ eq
    have hz : xs.length ≤ sizeLine := by rw [e1, sizeLine_eq]; omega
    exact ⟨by rw [q1.len]; exact hz, fun p n => new_lst g1 q1 hz h1 n⟩

/-! ### a[i] -/
def rIxS2 (K : PySem.W.Frag) : R2 := fun x y H Q => rIxL K x y H Q ∨ rIxT K x y H Q
theorem atI_rel {A : At} {ds : List D} {vs : List V} {i : Int} {d : D} (r : RelL A ds vs) (h : atI ds i = some d) : ∃ v, atI vs i = some v ∧ Rel A d v := by
  unfold atI at h ⊢
  rw [r.len]
  cases e : ixN ds.length i with
  | none => rw [e] at h; cases h
  | some j =>
    rw [e] at h
    exact r.get h
theorem snd_idx : Snd2 K idxD (rIxS2 K) := by
  intro A S x y d v w Q W eK g rx ry e h
  subst eK
  cases x with
  | tup xs =>
    cases y with
    | int i =>
      obtain ⟨p, vs, rfl, h1, h2, h3⟩ := rx
      obtain ⟨z, e1, r1⟩ := atI_rel h3 e
      exact .inr ⟨p, vs, i, z, rfl, ry, SqT.of h1, e1, val_ok g h r1⟩
    | _ => cases e
  | lst xs =>
    cases y with
    | int i =>
      obtain ⟨p, vs, rfl, h1, h2, h3⟩ := rx
      obtain ⟨z, e1, r1⟩ := atI_rel h3 e
      exact .inl ⟨p, vs, i, z, rfl, ry, h1, e1, val_ok g h r1⟩
    | _ => cases e
  | _ => cases y <;> cases e
def notSl : Expr → Bool
  | .Slice .. => false
  | _ => true
theorem plainIx_of (h : notSl b = true) : PlainIx b := fun o i => by cases b <;> first | rfl | cases h
theorem sE_idx (hs : notSl b = true) (ha : PE X a (TEv K mg W ea)) (hb : PE X b (TEv K mg W eb)) (eK : X.K = K) : PE X (.Subscript a b pos) (TEv K mg W (op2 idxD ea eb)) := by
  subst eK
  exact (pe_ix (ix_list.or ix_tup) ha hb (plainIx_of hs)).less fun σ H Q h => rd_op snd_idx h

/-! ### a[lo:hi] -/
def optI (eo : Option (Env → M D)) : Env → M (Option Int) := fun ρ => match eo with
  | none => M.pure none
  | some e => M.bind (e ρ) fun d => match d with
    | .int i => M.pure (some i)
    | _ => M.bad
def sliceD (lo hi : Option Int) : D → Option D
  | .tup xs => some (.tup (cutD xs lo hi))
  | .lst xs => some (.lst (cutD xs lo hi))
  | _ => none
def sl2 (ea : Env → M D) (elo ehi : Option (Env → M D)) : Env → M D := fun ρ => M.bind (ea ρ) fun x => M.bind (optI elo ρ) fun lo => M.bind (optI ehi ρ) fun hi => fun S => M.opt (sliceD lo hi (vw S x)) S
abbrev TOv (K : PySem.W.Frag) (mg : Str → Option Value) (W : WX) (ev : Env → M (Option Int)) : TO := fun σ H Q => Rdg (fun _ (a b : Option Int) => b = a) K mg W ev σ H Q
theorem sO_none : PO X none (TOv K mg W (optI none)) := ⟨fun pins s σ H Q I h => po_none.run pins s σ H Q I (by
  obtain ⟨A, ρ, S, rfl, rfl, rfl, g, _, h⟩ := h
  exact h none A (Ext.refl A) g rfl)⟩
theorem sO_some (ha : PE X a (TEv K mg W ea)) : PO X (some a) (TOv K mg W (optI (some ea))) := ⟨fun pins s σ H Q I h => (po_some ha).run pins s σ H Q I (by
  obtain ⟨A, ρ, S, eK, em, eH, g, r1, h⟩ := h
  refine ⟨A, ρ, S, eK, em, eH, g, r1, Rdg.bind h fun x S1 v B eq x1 g1 q1 h1 => ?_⟩
  cases x with
  | int i => exact ⟨i, q1, h1 (some i) B (Ext.refl B) g1 rfl⟩
  | _ => exact h1.elim)⟩
def rSlS (K : PySem.W.Frag) : V → Option Int → Option Int → Hp → VK → Prop := fun x lo hi H Q => rSlL K x lo hi H Q ∨ rSlA K x lo hi H Q
theorem cut_rel {A : At} {ds : List D} {vs : List V} (r : RelL A ds vs) (lo hi : Option Int) : RelL A (cutD ds lo hi) (cutV vs lo hi) := by
  unfold cutD cutV
  rw [r.len]
  exact (r.drop _).take _
theorem cutD_len (xs : List D) (lo hi : Option Int) : (cutD xs lo hi).length ≤ xs.length := by
  unfold cutD
  rw [List.length_take, List.length_drop]
  omega
theorem sE_slice {lo hi : Option Expr} {elo ehi : Option (Env → M D)} (eK : X.K = K) (ha : PE X a (TEv K mg W ea)) (hl : PO X lo (TOv K mg W (optI elo))) (hh : PO X hi (TOv K mg W (optI ehi))) :
    PE X (.Subscript a (.Slice lo hi none p2) pos) (TEv K mg W (sl2 ea elo ehi)) := by
  subst eK
  refine (pe_slice (sl_list.or sl_tupA) ha hl hh).less fun σ H Q h => ?_
  obtain ⟨A, ρ, S, eK, em, eH, g, r1, h⟩ := h
  refine ⟨A, ρ, S, eK, em, eH, g, r1, Rdg.bind h fun x S1 v B eq x1 g1 q1 h1 => ?_⟩
  refine ⟨B, ρ, S1, x1.K.trans eK, x1.mg.trans em, rfl, g1, r1.step (x1.step g), Rdg.bind h1 fun lo1 S2 lo2 C _ x2 g2 q2 h2 => ?_⟩
  refine ⟨C, ρ, S2, x2.K.trans (x1.K.trans eK), x2.mg.trans (x1.mg.trans em), rfl, g2, (r1.step (x1.step g)).step (x2.step g1), Rdg.bind h2 fun hi1 S3 hi2 G _ x3 g3 q3 h3 => ?_⟩
  have eKG : G.K = X.K := x3.K.trans (x2.K.trans (x1.K.trans eK))
  have r4 := vw_rel g3 (Rel.step ((x2.trans x3).step g1) _ _ q1)
  rw [q2, q3]
  have h3 : Post Rel G (M.opt (sliceD lo1 hi1 (vw S3 x)) S3) Q (fun c d H' => W c d σ H') := h3
  cases q : vw S3 x with
  | tup xs =>
    rw [q] at h3 r4
    obtain ⟨p, ws, rfl, k1, k2, k3⟩ := r4
    refine .inr ⟨p, ws, rfl, SqT.of k1, fun hw => ?_, fun _ l n => new_tup g3 (cut_rel k3 lo1 hi1) (Nat.le_trans (cutD_len _ _ _) k2) h3 n⟩
    have ec : cutD xs lo1 hi1 = xs := by
      unfold cutD
      rw [← k3.len, hw.1, hw.2]
      simp [k3.len]
    refine val_ok g3 h3 ⟨p, ws, rfl, k1, ?_, ?_⟩
    · rw [ec]; exact k2
    · rw [ec]; exact k3
  | lst xs =>
    rw [q] at h3 r4
    obtain ⟨p, ws, rfl, k1, k2, k3⟩ := r4
    refine .inl ⟨p, ws, rfl, by rw [← eKG]; exact k1, fun l n => new_lst g3 (cut_rel k3 lo1 hi1) (Nat.le_trans (cutD_len _ _ _) k2) h3 n⟩
  | _ => rw [q] at h3; exact h3.elim

/-! ### calls of built-ins -/
def callA (f : Store → List D → Option D) (el : Env → M (List D)) : Env → M D := fun ρ => M.bind (el ρ) fun ds => fun S => M.opt (f S ds) S
theorem rd_callA {f : Store → List D → Option D} {r : List V → Hp → VK → Prop} (s : SndA K f r) {σ : L2.St} {H : Hp} {Q : VK} (h : TEv K mg W (callA f el) σ H Q) : tCB r (TAv K mg W el) σ H Q := by
  obtain ⟨A, ρ, S, eK, em, eH, g, r1, h⟩ := h
  refine ⟨A, ρ, S, eK, em, eH, g, r1, Rdg.bind h fun xs S1 vs B eq x1 g1 q1 h1 => ?_⟩
  have h1 : Post Rel B (M.opt (f S1 xs) S1) Q (fun c d H' => W c d σ H') := h1
  cases q : f S1 xs with
  | none => rw [q] at h1; exact h1.elim
  | some d =>
    rw [q] at h1
    exact s B S1 xs d vs Q _ (x1.K.trans eK) g1 q1 q h1
theorem sE_callV {x : Str} {f : Store → List D → Option D} {r : List V → Hp → VK → Prop} {v : Value} (hv0 : (∃ id, v = .builtin id) ∨ ∃ T, v = .type T) (hc : CallR X v r) (s : SndA K f r) (hg : Gl X x) (hm : X.mg x = none) (hv : bootBuiltins x = some v) (hn : x ≠ "__name__") (hdb : (x == ("__debug__" : Str)) = false)
    (hst : ∀ z ∈ e :: es, isStar z = false) (ha : PA X (e :: es) (TAv K mg W el)) : PE X (.Call (.Name x p) (e :: es) [] pos) (TEv K mg W (callA f el)) := by
  rcases hv0 with ⟨id, rfl⟩ | ⟨T, rfl⟩
  · exact (pe_callB hc hg hm hv ha hn hdb (star_of (hst e List.mem_cons_self)) (star_any fun z hz => hst z (List.mem_cons_of_mem _ hz))).less fun σ H Q h => rd_callA s h
  · exact (pe_callTy hc hg hm hv ha hn hdb (star_of (hst e List.mem_cons_self)) (star_any fun z hz => hst z (List.mem_cons_of_mem _ hz))).less fun σ H Q h => rd_callA s h
/-- a built-in type as a value -/
theorem sE_ty {x : Str} {n : String} (hg : Gl X x) (hm : X.mg x = none) (hv : bootBuiltins x = some (.type n)) (hn : x ≠ "__name__") (hd : (x == ("__debug__" : Str)) = false) : PE X (.Name x pos) (TEv K mg W fun _ => M.pure (.ty n)) :=
  (pe_bltn (v := .ty n) hg hm hv rfl hn hd).less fun σ H Q h => by
    obtain ⟨A, ρ, S, rfl, rfl, rfl, g, _, h⟩ := h
    exact val_ok g h rfl

/-! ### -a, not a -/
def un1 (f : D → Option D) (ea : Env → M D) : Env → M D := fun ρ => M.bind (ea ρ) fun x => M.opt (f x)
def negD : D → Option D
  | .int i => some (.int (-i))
  | _ => none
def notD : D → Option D
  | .bl b => some (.bl (!b))
  | _ => none
theorem sE_neg (ha : PE X a (TEv K mg W ea)) : PE X (.UnaryOp .USub a pos) (TEv K mg W (un1 negD ea)) :=
  (pe_un un_neg ha).less fun σ H Q h => by
    obtain ⟨A, ρ, S, eK, em, eH, g, r1, h⟩ := h
    refine ⟨A, ρ, S, eK, em, eH, g, r1, Rdg.bind h fun x S1 v B eq x1 g1 q1 h1 => ?_⟩
    cases x with
    | int i => exact ⟨i, q1, val_ok g1 h1 rfl⟩
    | _ => exact h1.elim
theorem sE_not (ha : PE X a (TEv K mg W ea)) : PE X (.UnaryOp .Not a pos) (TEv K mg W (un1 notD ea)) :=
  (pe_not ha).less fun σ H Q h => by
    obtain ⟨A, ρ, S, eK, em, eH, g, r1, h⟩ := h
    refine ⟨A, ρ, S, eK, em, eH, g, r1, Rdg.bind h fun x S1 v B eq x1 g1 q1 h1 => ?_⟩
    cases x with
    | bl i => exact ⟨i, q1, val_ok g1 h1 rfl⟩
    | _ => exact h1.elim
theorem sT_not (ha : PT X a (TTv K mg W (asBl ea))) : PT X (.UnaryOp .Not a pos) (TTv K mg W (asBl (un1 notD ea))) :=
  (pt_not ha).less fun σ H Q h => by
    obtain ⟨A, ρ, S, eK, em, eH, g, r1, h⟩ := h
    refine ⟨A, ρ, S, eK, em, eH, g, r1, ?_⟩
    have e1 : asBl (un1 notD ea) ρ S = ((asBl ea ρ) S).bind fun b => M.pure (!b) := by
      unfold asBl un1
      simp only [M.bind_ap]
      cases ea ρ S with
      | ok x S1 => cases x <;> rfl
      | exc x S1 => rfl
      | bad => rfl
    rw [e1] at h
    exact Rdg.bind h fun x S1 v B eq x1 g1 q1 h1 => h1 _ B (Ext.refl B) g1 (by rw [q1])

/-! ### and, or -/
def andM (ea eb : Env → M D) : Env → M D := fun ρ => M.bind (ea ρ) fun x => match x with
  | .bl true => eb ρ
  | .bl false => M.pure (.bl false)
  | _ => M.bad
def orM (ea eb : Env → M D) : Env → M D := fun ρ => M.bind (ea ρ) fun x => match x with
  | .bl false => eb ρ
  | .bl true => M.pure (.bl true)
  | _ => M.bad
theorem sE_and (ha : PE X a (TEv K mg W ea)) (hb : PE X (.BoolOp .And (b :: rest) pos) (TEv K mg W eb)) : PE X (.BoolOp .And (a :: b :: rest) pos) (TEv K mg W (andM ea eb)) :=
  (pe_and ha hb).less fun σ H Q h => by
    obtain ⟨A, ρ, S, eK, em, eH, g, r1, h⟩ := h
    refine ⟨A, ρ, S, eK, em, eH, g, r1, Rdg.bind h fun x S1 v B eq x1 g1 q1 h1 => ?_⟩
    cases x with
    | bl i =>
      refine ⟨i, q1, ?_⟩
      cases i with
      | true => exact ⟨B, ρ, S1, x1.K.trans eK, x1.mg.trans em, rfl, g1, r1.step (x1.step g), h1⟩
      | false => exact val_ok g1 h1 rfl
    | _ => exact h1.elim
theorem sE_or (ha : PE X a (TEv K mg W ea)) (hb : PE X (.BoolOp .Or (b :: rest) pos) (TEv K mg W eb)) : PE X (.BoolOp .Or (a :: b :: rest) pos) (TEv K mg W (orM ea eb)) :=
  (pe_or ha hb).less fun σ H Q h => by
    obtain ⟨A, ρ, S, eK, em, eH, g, r1, h⟩ := h
    refine ⟨A, ρ, S, eK, em, eH, g, r1, Rdg.bind h fun x S1 v B eq x1 g1 q1 h1 => ?_⟩
    cases x with
    | bl i =>
      refine ⟨i, q1, ?_⟩
      cases i with
      | false => exact ⟨B, ρ, S1, x1.K.trans eK, x1.mg.trans em, rfl, g1, r1.step (x1.step g), h1⟩
      | true => exact val_ok g1 h1 rfl
    | _ => exact h1.elim
theorem sE_one {op : BoolOp} (ha : PE X a (TEv K mg W ea)) : PE X (.BoolOp op [a] pos) (TEv K mg W ea) := pe_one ha
theorem sW_one {op : BoolOp} (ha : PT X a (TTv K mg W (asBl ea))) : PW X (.BoolOp op [a] pos) (TTv K mg W (asBl ea)) := by
  cases op
  · exact pw_and1 ha
  · exact pw_or1 ha
theorem sW_and (ha : PT X a (TTv K mg W (asBl ea))) (hb : PW X (.BoolOp .And (b :: rest) pos) (TTv K mg W (asBl eb))) : PW X (.BoolOp .And (a :: b :: rest) pos) (TTv K mg W (asBl (andM ea eb))) :=
  (pw_and ha hb).less fun σ H Q h => by
    obtain ⟨A, ρ, S, eK, em, eH, g, r1, h⟩ := h
    refine ⟨A, ρ, S, eK, em, eH, g, r1, ?_⟩
    have e1 : asBl (andM ea eb) ρ S = ((asBl ea ρ) S).bind fun t => if t = true then asBl eb ρ else M.pure false := by
      unfold asBl andM
      simp only [M.bind_ap]
      cases ea ρ S with
      | ok x S1 =>
        cases x with
        | bl t => cases t <;> rfl
        | _ => rfl
      | exc x S1 => rfl
      | bad => rfl
    rw [e1] at h
    refine Rdg.bind h fun x S1 v B eq x1 g1 q1 h1 => ?_
    subst q1
    cases v with
    | true => exact ⟨B, ρ, S1, x1.K.trans eK, x1.mg.trans em, rfl, g1, r1.step (x1.step g), h1⟩
    | false => exact h1 _ B (Ext.refl B) g1 rfl
theorem sW_or (ha : PT X a (TTv K mg W (asBl ea))) (hb : PW X (.BoolOp .Or (b :: rest) pos) (TTv K mg W (asBl eb))) : PW X (.BoolOp .Or (a :: b :: rest) pos) (TTv K mg W (asBl (orM ea eb))) :=
  (pw_or ha hb).less fun σ H Q h => by
    obtain ⟨A, ρ, S, eK, em, eH, g, r1, h⟩ := h
    refine ⟨A, ρ, S, eK, em, eH, g, r1, ?_⟩
    have e1 : asBl (orM ea eb) ρ S = ((asBl ea ρ) S).bind fun t => if t = true then M.pure true else asBl eb ρ := by
      unfold asBl orM
      simp only [M.bind_ap]
      cases ea ρ S with
      | ok x S1 =>
        cases x with
        | bl t => cases t <;> rfl
        | _ => rfl
      | exc x S1 => rfl
      | bad => rfl
    rw [e1] at h
    refine Rdg.bind h fun x S1 v B eq x1 g1 q1 h1 => ?_
    subst q1
    cases v with
    | false => exact ⟨B, ρ, S1, x1.K.trans eK, x1.mg.trans em, rfl, g1, r1.step (x1.step g), h1⟩
    | true => exact h1 _ B (Ext.refl B) g1 rfl

/-! ### a if c else b -/
def iteM (ec ea eb : Env → M D) : Env → M D := fun ρ => M.bind (ec ρ) fun x => match x with
  | .bl true => ea ρ
  | .bl false => eb ρ
  | _ => M.bad
theorem iteM_eq (ec ea eb : Env → M D) (ρ : Env) (S : Store) : iteM ec ea eb ρ S = ((asBl ec ρ) S).bind fun t => if t = true then ea ρ else eb ρ := by
  unfold asBl iteM
  simp only [M.bind_ap]
  cases ec ρ S with
  | ok x S1 =>
    cases x with
    | bl t => cases t <;> rfl
    | _ => rfl
  | exc x S1 => rfl
  | bad => rfl
theorem sE_ite (hc : PT X c (TTv K mg W (asBl ec))) (ha : PE X a (TEv K mg W ea)) (hb : PE X b (TEv K mg W eb)) : PE X (.IfExp c a b pos) (TEv K mg W (iteM ec ea eb)) :=
  (pe_ifExp hc ha hb).less fun σ H Q h => by
    obtain ⟨A, ρ, S, eK, em, eH, g, r1, h⟩ := h
    refine ⟨A, ρ, S, eK, em, eH, g, r1, ?_⟩
    rw [iteM_eq] at h
    refine Rdg.bind h fun x S1 v B eq x1 g1 q1 h1 => ?_
    subst q1
    cases v with
    | true => exact ⟨B, ρ, S1, x1.K.trans eK, x1.mg.trans em, rfl, g1, r1.step (x1.step g), h1⟩
    | false => exact ⟨B, ρ, S1, x1.K.trans eK, x1.mg.trans em, rfl, g1, r1.step (x1.step g), h1⟩

/-! ### a < b < c -/
def chnM (f f' : D → D → Option D) (ea eb ec : Env → M D) : Env → M D := fun ρ => M.bind (ea ρ) fun x => M.bind (eb ρ) fun y => M.bind (fun S => M.opt (f (vw S x) (vw S y)) S) fun t => match t with
  | .bl true => M.bind (ec ρ) fun z => fun S => M.opt (f' (vw S y) (vw S z)) S
  | .bl false => M.pure (.bl false)
  | _ => M.bad
theorem rd_chn {f f' : D → D → Option D} {r r' : R2} (s : Snd2 K f r) (s' : Snd2 K f' r') {σ : L2.St} {H : Hp} {Q : VK} (h : TEv K mg W (chnM f f' ea eb ec) σ H Q) : tChain r r' (TEv K mg W ea) (TEv K mg W eb) (TEv K mg W ec) σ H Q := by
  obtain ⟨A, ρ, S, eK, em, eH, g, r1, h⟩ := h
  refine ⟨A, ρ, S, eK, em, eH, g, r1, Rdg.bind h fun x S1 v B _ x1 g1 q1 h1 => ?_⟩
  refine ⟨B, ρ, S1, x1.K.trans eK, x1.mg.trans em, rfl, g1, r1.step (x1.step g), Rdg.bind h1 fun y S2 w C _ x2 g2 q2 h2 => ?_⟩
  have eKC : C.K = K := x2.K.trans (x1.K.trans eK)
  have q1' := Rel.step (x2.step g1) _ _ q1
  simp only [M.bind_ap] at h2
  cases e : f (vw S2 x) (vw S2 y) with
  | none => rw [e] at h2; exact h2.elim
  | some d =>
    rw [e] at h2
    simp only [M.opt_some, R.bind_ok] at h2
    refine s C S2 _ _ d v w _ (fun c d H' => W c d σ H') eKC g2 (vw_rel g2 q1') (vw_rel g2 q2) e (fun u G x3 g3 q3 => ?_)
    have h2 := Post.ext x3 h2
    cases d with
    | bl t =>
      refine ⟨t, q3, ?_⟩
      cases t with
      | true =>
        have eKG : G.K = K := x3.K.trans eKC
        refine ⟨G, ρ, S2, eKG, x3.mg.trans (x2.mg.trans (x1.mg.trans em)), rfl, g3, ((r1.step (x1.step g)).step (x2.step g1)).step (x3.step g2), Rdg.bind h2 fun z S4 u' J _ x4 g4 q4 h4 => ?_⟩
        have h4 : Post Rel J (M.opt (f' (vw S4 y) (vw S4 z)) S4) Q (fun c d H' => W c d σ H') := h4
        cases e' : f' (vw S4 y) (vw S4 z) with
        | none => rw [e'] at h4; exact h4.elim
        | some d' =>
          rw [e'] at h4
          exact s' J S4 _ _ d' w u' Q _ (x4.K.trans eKG) g4 (vw_rel g4 (Rel.step ((x3.trans x4).step g2) _ _ q2)) (vw_rel g4 q4) e' h4
      | false => exact val_ok g3 h2 rfl
    | _ => exact h2.elim
theorem sE_chn {op op' : CmpOp} {f f' : D → D → Option D} {r r' : R2} (ho : OpR X (compareOp op) r) (ho' : OpR X (compareOp op') r') (s : Snd2 K f r) (s' : Snd2 K f' r') (hm : lastMarks [op, op'] [b, c] = false)
    (ha : PE X a (TEv K mg W ea)) (hb : PE X b (TEv K mg W eb)) (hc : PE X c (TEv K mg W ec)) : PE X (.Compare a [op, op'] [b, c] pos) (TEv K mg W (chnM f f' ea eb ec)) :=
  (pe_chain ho ho' ha hb hc hm).less fun σ H Q h => rd_chn s s' h
theorem sT_chn {op op' : CmpOp} {f f' : D → D → Option D} {r r' : R2} (ho : OpR X (compareOp op) r) (ho' : OpR X (compareOp op') r') (s : Snd2 K f r) (s' : Snd2 K f' r') (hm : lastMarks [op, op'] [b, c] = false)
    (ha : PE X a (TEv K mg W ea)) (hb : PE X b (TEv K mg W eb)) (hc : PE X c (TEv K mg W ec)) : PT X (.Compare a [op, op'] [b, c] pos) (TTv K mg W (asBl (chnM f f' ea eb ec))) :=
  (pt_chain ho ho' ha hb hc hm).less fun σ H Q h => rd_chn s s' (rd_bl h)
end
end LC

set_option maxHeartbeats 1000000
/-! LC9: targets, what is walked, comprehensions. -/
namespace LC
open PySem PySem.Spec PyProof.Rows L2

/-! ### targets -/
inductive LT where
  | nm (i : Nat)
  | tp (is : List Nat)
def LT.slots : LT → List Nat
  | .nm i => [i]
  | .tp is => is
def setAll : List Nat → List D → Env → Option Env
  | [], [], ρ => some ρ
  | i :: is, d :: ds, ρ => setAll is ds (ρ.set i (some d))
  | _, _, _ => none
def asgT : LT → D → Env → Option Env
  | .nm i, d, ρ => some (ρ.set i (some d))
  | .tp is, .tup ds, ρ => setAll is ds ρ
  | .tp _, _, _ => none
/-- one frame's slots behind another's, but for some -/
def Alike (vs : List Nat) (σ σ' : L2.St) : Prop := ∀ ws : List Nat, (∀ i ∈ vs, i ∈ ws) → wipe σ' ws = wipe σ ws
theorem wipe_set {σ : L2.St} {i : Nat} {x : Option V} : ∀ {ws : List Nat}, i ∈ ws → wipe (σ.set i x) ws = wipe σ ws
  | [], h => by cases h
  | w :: ws, h => by
    have comm : ∀ (τ : L2.St) (us : List Nat), wipe (τ.set i x) us = (wipe τ us).set i x ∨ wipe (τ.set i x) us = wipe τ us := by
      intro τ us
      induction us with
      | nil => exact .inl rfl
      | cons u us ih =>
        show (wipe (τ.set i x) us).set u none = ((wipe τ us).set u none).set i x ∨ (wipe (τ.set i x) us).set u none = (wipe τ us).set u none
        rcases ih with e | e
        · rw [e]
          by_cases hu : i = u
          · subst hu
            exact .inr (by rw [List.set_set])
          · exact .inl (by rw [List.set_comm _ _ hu])
        · rw [e]
          exact .inr rfl
    show (wipe (σ.set i x) ws).set w none = (wipe σ ws).set w none
    by_cases hw : i = w
    · subst hw
      rcases comm σ ws with e | e
      · rw [e, List.set_set]
      · rw [e]
    · rcases List.mem_cons.mp h with rfl | h
      · exact absurd rfl hw
      · rw [wipe_set h]
abbrev TGv (K : PySem.W.Frag) (mg : Str → Option Value) (tg : LT) : TG := fun v σ H Q =>
  ∃ (A : At) (ρ ρ' : Env) (S : Store) (d : D), A.K = K ∧ A.mg = mg ∧ A.H = H ∧ Gd A S ∧ EnvR A ρ σ ∧ Rel A d v ∧ asgT tg d ρ = some ρ' ∧ ∀ σ', EnvR A ρ' σ' → Alike tg.slots σ σ' → Q σ' H
section
variable {X : Cx} {N : List Str} {sc : Scope} {K : PySem.W.Frag} {mg : Str → Option Value} {W : WX} {pos : Pos}
theorem sG_nm {i : Nat} {x : Str} (hN : X.N.Nodup) (hi : X.N[i]? = some x) (hx : Loc X.env.scope x) (hf : X.fn x = true ∨ X.env.scope.names.lookup x = some .local) : PG X (.Name x pos) (TGv K mg (.nm i)) :=
  ⟨fun pins s σ H v u Q I r h => (pg_name hN hi hx hf).run pins s σ H v u Q I r (by
    obtain ⟨A, ρ, ρ', S, d, eK, em, rfl, g, r1, rd, ha, q⟩ := h
    cases ha
    exact q _ (r1.set rd) fun ws hw => wipe_set (hw i (by simp [LT.slots])))⟩
/-- several names -/
def gNms : List Nat → TGs
  | [] => gNil
  | i :: is => gCons (gName i) (gNms is)
theorem gNms_ok {A : At} : ∀ {is : List Nat} {ds : List D} {vs : List V} {ρ ρ' : Env} {σ : L2.St} {H : Hp} {Q : L2.St → Hp → Prop}, EnvR A ρ σ → RelL A ds vs → setAll is ds ρ = some ρ' → (∀ σ', EnvR A ρ' σ' → Alike is σ σ' → Q σ' H) → gNms is vs σ H Q
  | [], [], vs, ρ, ρ', σ, H, Q, r, rl, e, q => by
    cases e
    rw [show vs = [] from rl]
    exact ⟨rfl, q σ r fun _ _ => rfl⟩
  | i :: is, d :: ds, vs, ρ, ρ', σ, H, Q, r, rl, e, q => by
    obtain ⟨v, vr, rfl, k1, k2⟩ := rl
    exact ⟨v, vr, rfl, gNms_ok (r.set k1) k2 e fun σ' r' al => q σ' r' fun ws hw => (al ws fun j hj => hw j (List.mem_cons_of_mem _ hj)).trans (wipe_set (hw i List.mem_cons_self))⟩
  | [], _ :: _, _, _, _, _, _, _, _, _, e, _ => by cases e
  | _ :: _, [], _, _, _, _, _, _, _, _, e, _ => by cases e
theorem setAll_len : ∀ {is : List Nat} {ds : List D} {ρ ρ' : Env}, setAll is ds ρ = some ρ' → ds.length = is.length
  | [], [], _, _, _ => rfl
  | _ :: is, _ :: ds, _, _, e => by rw [List.length_cons, List.length_cons, setAll_len (is := is) (ds := ds) e]
  | [], _ :: _, _, _, e => by cases e
  | _ :: _, [], _, _, e => by cases e
/-- names, as targets: each with its place -/
def namesOk (N : List Str) (sc : Scope) (fn : Str → Bool) : List Expr → List Nat → Bool
  | [], [] => true
  | .Name x _ :: es, i :: is => decide (N[i]? = some x) && ((sc.names.lookup x == some .local || (sc.names.lookup x == some .cell && fn x)) && namesOk N sc fn es is)
  | _, _ => false
theorem name_ok {sc : Scope} {x : Str} {fn : Str → Bool} (h : (sc.names.lookup x == some .local || (sc.names.lookup x == some .cell && fn x)) = true) : Loc sc x ∧ (fn x = true ∨ sc.names.lookup x = some .local) := by
  rcases Bool.or_eq_true_iff.mp h with h | h
  · have h' := eq_of_beq h
    exact ⟨.inl h', .inr h'⟩
  · obtain ⟨h1, h2⟩ := Bool.and_eq_true_iff.mp h
    exact ⟨.inr (eq_of_beq h1), .inl h2⟩
theorem assign_cons {env : PySem.Env} {x : Str} {p : Pos} {es : List Expr} : (assignEach (.Name x p :: es) env).map (·.2) = assign (.Name x p) env :: (assignEach es env).map (·.2) := rfl
theorem pgs_nms (hN : X.N.Nodup) {fn : Str → Bool} (hf : ∀ x, fn x = true → X.fn x = true) : ∀ {es : List Expr} {is : List Nat}, namesOk X.N X.env.scope fn es is = true → PGs X es (gNms is)
  | [], [], _ => pgs_nil
  | .Name x p :: es, i :: is, h => by
    obtain ⟨h1, h2⟩ := Bool.and_eq_true_iff.mp (show (decide (X.N[i]? = some x) && ((X.env.scope.names.lookup x == some .local || (X.env.scope.names.lookup x == some .cell && fn x)) && namesOk X.N X.env.scope fn es is)) = true from h)
    obtain ⟨h2, h3⟩ := Bool.and_eq_true_iff.mp h2
    obtain ⟨a, b⟩ := name_ok h2
    exact pgs_cons (pg_name hN (of_decide_eq_true h1) a (b.elim (fun z => .inl (hf x z)) .inr)) (pgs_nms hN hf h3)
  | [], _ :: _, h => by cases h
  | .Name _ _ :: _, [], h => by cases h
  | .BoolOp .. :: _, [], h => by cases h
  | .BoolOp .. :: _, _ :: _, h => by cases h
  | .NamedExpr .. :: _, [], h => by cases h
  | .NamedExpr .. :: _, _ :: _, h => by cases h
  | .BinOp .. :: _, [], h => by cases h
  | .BinOp .. :: _, _ :: _, h => by cases h
  | .UnaryOp .. :: _, [], h => by cases h
  | .UnaryOp .. :: _, _ :: _, h => by cases h
  | .Lambda .. :: _, [], h => by cases h
  | .Lambda .. :: _, _ :: _, h => by cases h
  | .IfExp .. :: _, [], h => by cases h
  | .IfExp .. :: _, _ :: _, h => by cases h
  | .Dict .. :: _, [], h => by cases h
  | .Dict .. :: _, _ :: _, h => by cases h
  | .Set .. :: _, [], h => by cases h
  | .Set .. :: _, _ :: _, h => by cases h
  | .ListComp .. :: _, [], h => by cases h
  | .ListComp .. :: _, _ :: _, h => by cases h
  | .SetComp .. :: _, [], h => by cases h
  | .SetComp .. :: _, _ :: _, h => by cases h
  | .DictComp .. :: _, [], h => by cases h
  | .DictComp .. :: _, _ :: _, h => by cases h
  | .GeneratorExp .. :: _, [], h => by cases h
  | .GeneratorExp .. :: _, _ :: _, h => by cases h
  | .Await .. :: _, [], h => by cases h
  | .Await .. :: _, _ :: _, h => by cases h
  | .Yield .. :: _, [], h => by cases h
  | .Yield .. :: _, _ :: _, h => by cases h
  | .YieldFrom .. :: _, [], h => by cases h
  | .YieldFrom .. :: _, _ :: _, h => by cases h
  | .Compare .. :: _, [], h => by cases h
  | .Compare .. :: _, _ :: _, h => by cases h
  | .Call .. :: _, [], h => by cases h
  | .Call .. :: _, _ :: _, h => by cases h
  | .FormattedValue .. :: _, [], h => by cases h
  | .FormattedValue .. :: _, _ :: _, h => by cases h
  | .JoinedStr .. :: _, [], h => by cases h
  | .JoinedStr .. :: _, _ :: _, h => by cases h
  | .Constant .. :: _, [], h => by cases h
  | .Constant .. :: _, _ :: _, h => by cases h
  | .Attribute .. :: _, [], h => by cases h
  | .Attribute .. :: _, _ :: _, h => by cases h
  | .Subscript .. :: _, [], h => by cases h
  | .Subscript .. :: _, _ :: _, h => by cases h
  | .Starred .. :: _, [], h => by cases h
  | .Starred .. :: _, _ :: _, h => by cases h
  | .List .. :: _, [], h => by cases h
  | .List .. :: _, _ :: _, h => by cases h
  | .Tuple .. :: _, [], h => by cases h
  | .Tuple .. :: _, _ :: _, h => by cases h
  | .Slice .. :: _, [], h => by cases h
  | .Slice .. :: _, _ :: _, h => by cases h
theorem namesOk_len {fn : Str → Bool} {env : PySem.Env} : ∀ {es : List Expr} {is : List Nat}, namesOk N sc fn es is = true → (assignEach es env).length = is.length ∧ (assignEach es env).findIdx? (·.1) = none
  | [], [], _ => ⟨rfl, rfl⟩
  | .Name x p :: es, i :: is, h => by
    obtain ⟨_, h2⟩ := Bool.and_eq_true_iff.mp (show (decide (N[i]? = some x) && ((sc.names.lookup x == some .local || (sc.names.lookup x == some .cell && fn x)) && namesOk N sc fn es is)) = true from h)
    obtain ⟨_, h3⟩ := Bool.and_eq_true_iff.mp h2
    obtain ⟨a, b⟩ := namesOk_len (env := env) h3
    have e : assignEach (.Name x p :: es) env = (false, assign (.Name x p) env) :: assignEach es env := rfl
    rw [e]
    refine ⟨by rw [List.length_cons, List.length_cons, a], ?_⟩
    rw [List.findIdx?_cons, b]
    rfl
  | [], _ :: _, h => by cases h
  | e :: es, [], h => by cases e <;> cases h
  | .BoolOp .. :: _, _ :: _, h => by cases h
  | .NamedExpr .. :: _, _ :: _, h => by cases h
  | .BinOp .. :: _, _ :: _, h => by cases h
  | .UnaryOp .. :: _, _ :: _, h => by cases h
  | .Lambda .. :: _, _ :: _, h => by cases h
  | .IfExp .. :: _, _ :: _, h => by cases h
  | .Dict .. :: _, _ :: _, h => by cases h
  | .Set .. :: _, _ :: _, h => by cases h
  | .ListComp .. :: _, _ :: _, h => by cases h
  | .SetComp .. :: _, _ :: _, h => by cases h
  | .DictComp .. :: _, _ :: _, h => by cases h
  | .GeneratorExp .. :: _, _ :: _, h => by cases h
  | .Await .. :: _, _ :: _, h => by cases h
  | .Yield .. :: _, _ :: _, h => by cases h
  | .YieldFrom .. :: _, _ :: _, h => by cases h
  | .Compare .. :: _, _ :: _, h => by cases h
  | .Call .. :: _, _ :: _, h => by cases h
  | .FormattedValue .. :: _, _ :: _, h => by cases h
  | .JoinedStr .. :: _, _ :: _, h => by cases h
  | .Constant .. :: _, _ :: _, h => by cases h
  | .Attribute .. :: _, _ :: _, h => by cases h
  | .Subscript .. :: _, _ :: _, h => by cases h
  | .Starred .. :: _, _ :: _, h => by cases h
  | .List .. :: _, _ :: _, h => by cases h
  | .Tuple .. :: _, _ :: _, h => by cases h
  | .Slice .. :: _, _ :: _, h => by cases h
theorem sG_tp {es : List Expr} {is : List Nat} {k : Nat} {fn : Str → Bool} (hc : X.calm = true) (hN : X.N.Nodup) (hf : ∀ x, fn x = true → X.fn x = true) (h : namesOk X.N X.env.scope fn es is = true) (eK : X.K = K) : PG X (.Tuple es k pos) (TGv K mg (.tp is)) := by
  subst eK
  obtain ⟨h1, h2⟩ := namesOk_len (env := X.env) h
  exact ⟨fun pins s σ H v u Q I r hq => (pg_tup hc (pgs_nms hN hf h) h1 h2).run pins s σ H v u Q I r (by
    obtain ⟨A, ρ, ρ', S, d, eK, em, rfl, g, r1, rd, ha, q⟩ := hq
    cases d with
    | tup ds =>
      obtain ⟨p, vs, rfl, k1, k2, k3⟩ := rd
      exact ⟨p, vs, rfl, SqT.of k1, by rw [k3.len, setAll_len ha], gNms_ok r1 k3 ha q⟩
    | _ => cases ha)⟩
end
end LC

set_option maxHeartbeats 1000000
/-! LC10: what is walked; comprehensions. -/
namespace LC
open PySem PySem.Spec PyProof.Rows L2

inductive Src where
  | fix (xs : List D)
  | cel (n : Nat)
  | enm (s : Src)
  | zip (s t : Src)
def srcAt : Src → Store → Nat → Option (Option D)
  | .fix xs, _, i => some xs[i]?
  | .cel n, S, i => match S[n]? with
    | some (.lst ys) => some ys[i]?
    | _ => none
  | .enm s, S, i => match srcAt s S i with
    | some (some d) => some (some (.tup [.int (i : Nat), d]))
    | r => r
  | .zip s t, S, i => match srcAt s S i with
    | some (some d) => match srcAt t S i with
      | some (some e) => some (some (.tup [d, e]))
      | r => r
    | some none => match srcAt t S i with
      | some _ => some none
      | none => none
    | none => none
def srcFuel : Src → Store → Nat
  | .fix xs, _ => xs.length + 1
  | .cel n, S => match S[n]? with
    | some (.lst ys) => ys.length + 1000
    | _ => 0
  | .enm s, S => srcFuel s S
  | .zip s _, S => srcFuel s S
def Walks (A0 : At) (s : Src) (J : It) : Prop := ∀ (A : At) (S : Store), Stp A0 A → Gd A S → ∀ (i : Nat) (r : Option D), srcAt s S i = some r → match r with
  | none => J.stop i A.H
  | some d => i < sizeLine ∧ J.go i A.H ∧ ∀ x H', J.yld i A.H x H' → ∃ B : At, B.H = H' ∧ Ext A B ∧ Gd B S ∧ Rel B d x
abbrev TIv (K : PySem.W.Frag) (mg : Str → Option Value) (W : WX) (ev : Env → M Src) : TI := fun σ H R => Rdg Walks K mg W ev σ H R
/-- where a list or a tuple is walked -/
theorem walks_list {A : At} {p : Addr} {xs : List D} {vs : List V} (h : A.rd p vs) (hz : xs.length ≤ sizeLine) (r : RelL A xs vs) : Walks A (.fix xs) (Itl A.K p) := fun B S st g i r' e => by
  cases (show some xs[i]? = some r' from e)
  have hq : SqL A.K B.H p vs := by rw [← st.K]; exact (st.rd _ _ h).sq
  cases q : xs[i]? with
  | none =>
    have := List.getElem?_eq_none_iff.mp q
    exact ⟨vs, hq, by rw [r.len]; exact this⟩
  | some d =>
    obtain ⟨v, e1, r1⟩ := (RelL.step st _ _ r).get q
    have hi := (List.getElem?_eq_some_iff.mp q).1
    refine ⟨Nat.lt_of_lt_of_le hi hz, ⟨vs, v, hq, e1⟩, fun x H' hy => ?_⟩
    obtain ⟨rfl, hy⟩ := hy
    have ex : x = v := Option.some.inj ((hy vs hq).symm.trans e1)
    exact ⟨B, rfl, Ext.refl B, g, by rw [ex]; exact r1⟩
theorem walks_cell {A : At} {p : Addr} {n : Nat} (h : A.m[n]? = some p) : Walks A (.cel n) (Itl A.K p) := fun B S st g i r' e => by
  have hp := st.pre n p h
  have e' : (match S[n]? with
    | some (.lst ys) => some ys[i]?
    | _ => none) = some r' := e
  cases q : S[n]? with
  | none => rw [q] at e'; cases e'
  | some c =>
    rw [q] at e'
    cases c with
    | lst ys =>
      cases e'
      obtain ⟨vs, e1, hz, r⟩ := g.ok n _ p q hp
      have hq : SqL A.K B.H p vs := SqL.of e1
      cases q2 : ys[i]? with
      | none =>
        have := List.getElem?_eq_none_iff.mp q2
        exact ⟨vs, hq, by rw [r.len]; exact this⟩
      | some d =>
        obtain ⟨v, e2, r1⟩ := r.get q2
        have hi := (List.getElem?_eq_some_iff.mp q2).1
        refine ⟨Nat.lt_of_lt_of_le hi hz, ⟨vs, v, hq, e2⟩, fun x H' hy => ?_⟩
        obtain ⟨rfl, hy⟩ := hy
        have ex : x = v := Option.some.inj ((hy vs hq).symm.trans e2)
        exact ⟨B, rfl, Ext.refl B, g, by rw [ex]; exact r1⟩
    | _ => cases e'
theorem walks_tup {A : At} {p : Addr} {xs : List D} {vs : List V} (h : A.H p = some (.tup vs)) (hz : xs.length ≤ sizeLine) (r : RelL A xs vs) : Walks A (.fix xs) (Itt A.K p) := fun B S st g i r' e => by
  cases (show some xs[i]? = some r' from e)
  have hq : SqT A.K B.H p vs := SqT.of (st.tp _ _ h)
  cases q : xs[i]? with
  | none =>
    have := List.getElem?_eq_none_iff.mp q
    exact ⟨vs, hq, by rw [r.len]; exact this⟩
  | some d =>
    obtain ⟨v, e1, r1⟩ := (RelL.step st _ _ r).get q
    have hi := (List.getElem?_eq_some_iff.mp q).1
    refine ⟨Nat.lt_of_lt_of_le hi hz, ⟨vs, v, hq, e1⟩, fun x H' hy => ?_⟩
    obtain ⟨rfl, hy⟩ := hy
    have ex : x = v := Option.some.inj ((hy vs hq).symm.trans e1)
    exact ⟨B, rfl, Ext.refl B, g, by rw [ex]; exact r1⟩
def rangeD (lo : Int) (n : Nat) : List D := (List.range n).map fun i => D.int (lo + (i : Nat))
theorem walks_rng {A : At} {lo : Int} {n : Nat} (hn : n ≤ sizeLine) : Walks A (.fix (rangeD lo n)) (Itr lo n) := fun B S st g i r' e => by
  cases (show some (rangeD lo n)[i]? = some r' from e)
  unfold rangeD
  rw [List.getElem?_map]
  by_cases hi : i < n
  · rw [List.getElem?_range hi]
    refine ⟨Nat.lt_of_lt_of_le hi hn, hi, fun x H' hy => ?_⟩
    obtain ⟨rfl, rfl⟩ := hy
    exact ⟨B, rfl, Ext.refl B, g, rfl⟩
  · rw [List.getElem?_eq_none (by simpa using Nat.le_of_not_lt hi)]
    exact Nat.le_of_not_lt hi

section
variable {X : Cx} {K : PySem.W.Frag} {mg : Str → Option Value} {W : WX} {pos p : Pos} {tg a b : Expr} {ea eb : Env → M D} {el : Env → M (List D)}
def srcOf (S : Store) : D → Option Src
  | .tup xs => some (.fix xs)
  | .lst xs => some (.fix xs)
  | .cell n => match S[n]? with
    | some (.lst _) => some (.cel n)
    | _ => none
  | _ => none
def walkM (ea : Env → M D) : Env → M Src := fun ρ => M.bind (ea ρ) fun x => fun S => M.opt (srcOf S x) S
theorem PI.or {w w' : TI} (h : PI X tg a w) (h' : PI X tg a w') : PI X tg a (fun σ H R => w σ H R ∨ w' σ H R) := ⟨fun pins s σ H R I q => by
  rcases q with q | q
  · exact h.run pins s σ H R I q
  · exact h'.run pins s σ H R I q⟩
theorem PI.less {w w' : TI} (h : PI X tg a w) (i : ∀ σ H R, w' σ H R → w σ H R) : PI X tg a w' := ⟨fun pins s σ H R I q => h.run pins s σ H R I (i σ H R q)⟩
theorem sI_of (eK : X.K = K) (ha : PE X a (TEv K mg W ea)) : PI X tg a (TIv K mg W (walkM ea)) := by
  subst eK
  refine PI.less (PI.or (pi_list ha) (pi_tup ha)) fun σ H R h => ?_
  obtain ⟨A, ρ, S, eK, em, eH, g, r1, h⟩ := h
  have h : Post Walks A ((ea ρ S).bind fun x => fun S => M.opt (srcOf S x) S) R (fun c d H' => W c d σ H') := h
  by_cases ht : ∃ xs S1, ea ρ S = .ok (.tup xs) S1
  · obtain ⟨xs, S1, e⟩ := ht
    refine .inr ⟨A, ρ, S, eK, em, eH, g, r1, ?_⟩
    rw [e] at h ⊢
    intro v B x1 g1 q1
    obtain ⟨q, vs, rfl, k1, k2, k3⟩ := q1
    have eKB : B.K = X.K := x1.K.trans eK
    refine ⟨q, rfl, ⟨vs, SqT.of k1⟩, ?_⟩
    have hw := walks_tup k1 k2 k3
    rw [eKB] at hw
    exact h _ B x1 g1 hw
  · refine .inl ⟨A, ρ, S, eK, em, eH, g, r1, ?_⟩
    cases e : ea ρ S with
    | ok d S1 =>
      rw [e] at h
      have h : Post Walks A (M.opt (srcOf S1 d) S1) R (fun c d H' => W c d σ H') := h
      intro v B x1 g1 q1
      have eKB : B.K = X.K := x1.K.trans eK
      cases d with
      | tup xs => exact absurd ⟨xs, S1, e⟩ ht
      | lst xs =>
        obtain ⟨q, vs, rfl, k1, k2, k3⟩ := q1
        refine ⟨q, rfl, ⟨vs, by rw [← eKB]; exact k1.sq⟩, ?_⟩
        have hw := walks_list k1 k2 k3
        rw [eKB] at hw
        exact h _ B x1 g1 hw
      | cell n =>
        obtain ⟨q, k1, rfl⟩ := q1
        have hs : srcOf S1 (.cell n) = (match S1[n]? with
          | some (.lst _) => some (Src.cel n)
          | _ => none) := rfl
        rw [hs] at h
        cases e2 : S1[n]? with
        | none => rw [e2] at h; exact h.elim
        | some c =>
          rw [e2] at h
          cases c with
          | lst ys =>
            obtain ⟨vs, e3, _, _⟩ := g1.ok n _ q e2 k1
            refine ⟨q, rfl, ⟨vs, SqL.of e3⟩, ?_⟩
            have hw := walks_cell k1
            rw [eKB] at hw
            exact h _ B x1 g1 hw
          | _ => exact h.elim
      | _ => exact h.elim
    | exc x S1 =>
      rw [e] at h
      exact h
    | bad =>
      rw [e] at h
      exact h
def rngD : List D → Option Src
  | [.int j] => if -1000000 ≤ j ∧ j ≤ 1000000 then some (.fix (rangeD 0 j.toNat)) else none
  | [.int i, .int j] => if -1000000 ≤ i ∧ i ≤ 1000000 ∧ -1000000 ≤ j ∧ j ≤ 1000000 then some (.fix (rangeD i (j - i).toNat)) else none
  | _ => none
def rngM (el : Env → M (List D)) : Env → M Src := fun ρ => M.bind (el ρ) fun ds => M.opt (rngD ds)
theorem sI_rng1 (hs : isStar a = false) (hg : Gl X "range") (hm : X.mg "range" = none) (ha : PA X [a] (TAv K mg W el)) (hl : LenIs el 1) : PI X tg (.Call (.Name "range" p) [a] [] pos) (TIv K mg W (rngM el)) :=
  PI.less (pi_range1 hg hm ha (star_of hs)) fun σ H R h => by
    obtain ⟨A, ρ, S, eK, em, eH, g, r1, h⟩ := h
    refine ⟨A, ρ, S, eK, em, eH, g, r1, Rdg.bind h fun xs S1 vs B eq x1 g1 q1 h1 => ?_⟩
    have e1 := hl _ _ _ _ eq
    match xs, e1 with
    | [d], _ =>
      obtain ⟨v, rfl, r2⟩ := q1.one'
      cases d with
      | int j =>
        have h1 : Post Walks B (M.opt (if -1000000 ≤ j ∧ j ≤ 1000000 then some (Src.fix (rangeD 0 j.toNat)) else none) S1) R (fun c d H' => W c d σ H') := h1
        by_cases hj : -1000000 ≤ j ∧ j ≤ 1000000
        · rw [if_pos hj] at h1
          exact ⟨j, by rw [show v = V.int j from r2], by omega, by omega, h1 _ B (Ext.refl B) g1 (walks_rng (by rw [sizeLine_eq]; omega))⟩
        · rw [if_neg hj] at h1
          exact h1.elim
      | _ => exact h1.elim
theorem sI_rng2 (hs : isStar a = false) (hs2 : isStar b = false) (hg : Gl X "range") (hm : X.mg "range" = none) (ha : PA X [a, b] (TAv K mg W el)) (hl : LenIs el 2) : PI X tg (.Call (.Name "range" p) [a, b] [] pos) (TIv K mg W (rngM el)) :=
  PI.less (pi_range2 hg hm ha (by rw [star_of hs, star_of hs2]; rfl) (star_of hs2)) fun σ H R h => by
    obtain ⟨A, ρ, S, eK, em, eH, g, r1, h⟩ := h
    refine ⟨A, ρ, S, eK, em, eH, g, r1, Rdg.bind h fun xs S1 vs B eq x1 g1 q1 h1 => ?_⟩
    have e1 := hl _ _ _ _ eq
    match xs, e1 with
    | [d, d'], _ =>
      obtain ⟨v, w, rfl, r2, r3⟩ := q1.two'
      cases d with
      | int i =>
        cases d' with
        | int j =>
          have h1 : Post Walks B (M.opt (if -1000000 ≤ i ∧ i ≤ 1000000 ∧ -1000000 ≤ j ∧ j ≤ 1000000 then some (Src.fix (rangeD i (j - i).toNat)) else none) S1) R (fun c d H' => W c d σ H') := h1
          by_cases hj : -1000000 ≤ i ∧ i ≤ 1000000 ∧ -1000000 ≤ j ∧ j ≤ 1000000
          · rw [if_pos hj] at h1
            exact ⟨i, j, by rw [show v = V.int i from r2, show w = V.int j from r3], ⟨by omega, by omega, by omega, by omega⟩, h1 _ B (Ext.refl B) g1 (walks_rng (by rw [sizeLine_eq]; omega))⟩
          · rw [if_neg hj] at h1
            exact h1.elim
        | _ => exact h1.elim
      | _ => cases d' <;> exact h1.elim
end

/-! ### comprehensions -/
/-- no exception leaves -/
def R.nox {α : Type} : R α → R α
  | .ok a S => .ok a S
  | .exc _ _ => .bad
  | .bad => .bad
def M.nox {α : Type} (m : M α) : M α := fun S => (m S).nox
def wipeE (ρ : Env) : List Nat → Env
  | [] => ρ
  | v :: vs => (wipeE ρ vs).set v none
/-- a walk with a state -/
def walkGo {β : Type} (s : Src) (body : β → D → M β) : Nat → Nat → β → M β
  | 0, _, _ => M.bad
  | n + 1, i, acc => fun S => match srcAt s S i with
    | none => .bad
    | some none => .ok acc S
    | some (some d) => (body acc d S).bind fun acc' => walkGo s body n (i + 1) acc'
def walkAll {β : Type} (s : Src) (body : β → D → M β) (acc : β) : M β := fun S => walkGo s body (srcFuel s S) 0 acc S
def condM (ec : Option (Env → M D)) : Env → M Bool := fun ρ => match ec with
  | none => M.pure true
  | some c => asBl c ρ
def lcBody (vs : List Nat) (tg : LT) (ec : Option (Env → M D)) (ee : Env → M D) (ρ : Env) (acc : List D) (d : D) : M (List D) := match asgT tg d (wipeE ρ vs) with
  | none => M.bad
  | some ρ' => M.bind (M.nox (condM ec ρ')) fun t => if t = true then M.bind (M.nox (ee ρ')) fun y => M.pure (acc ++ [y]) else M.pure acc
def lcM (vs : List Nat) (es : Env → M Src) (tg : LT) (ec : Option (Env → M D)) (ee : Env → M D) : Env → M D := fun ρ => M.bind (es ρ) fun s => M.bind (walkAll s (lcBody vs tg ec ee ρ) []) fun ys => M.pure (.lst ys)

theorem EnvR.wipe {A : At} {ρ : Env} {σ : L2.St} (h : EnvR A ρ σ) : ∀ vs : List Nat, EnvR A (wipeE ρ vs) (L2.wipe σ vs)
  | [] => h
  | v :: vs => by
    have ih := EnvR.wipe h vs
    refine ⟨by show ((L2.wipe σ vs).set v none).length = ((wipeE ρ vs).set v none).length; rw [List.length_set, List.length_set]; exact ih.1, fun i d e => ?_⟩
    have e' : ((wipeE ρ vs).set v none)[i]? = some (some d) := e
    by_cases hv : v = i
    · subst hv
      by_cases hlt : v < (wipeE ρ vs).length
      · rw [List.getElem?_set_self hlt] at e'
        cases e'
      · rw [List.getElem?_eq_none (by rw [List.length_set]; omega)] at e'
        cases e'
    · rw [List.getElem?_set_ne hv] at e'
      obtain ⟨w, e1, r⟩ := ih.2 i d e'
      exact ⟨w, by show ((L2.wipe σ vs).set v none)[i]? = _; rw [List.getElem?_set_ne hv]; exact e1, r⟩
theorem wipe_idem (σ : L2.St) (vs : List Nat) : L2.wipe (L2.wipe σ vs) vs = L2.wipe σ vs := by
  have gen : ∀ (ws us : List Nat), (∀ i ∈ us, i ∈ ws) → L2.wipe (L2.wipe σ us) ws = L2.wipe σ ws := by
    intro ws us
    induction us with
    | nil => intro _; rfl
    | cons u us ih =>
      intro h
      show L2.wipe ((L2.wipe σ us).set u none) ws = _
      rw [wipe_set (h u List.mem_cons_self)]
      exact ih fun i hi => h i (List.mem_cons_of_mem _ hi)
  exact gen vs vs fun _ h => h
/-- the list that is being made stands at p: no value leads there -/
def At.hid (A : At) (p : Addr) (vs : List V) : At := { A with E := fun q => A.E q ∨ q = p, H := upd A.H p (.lst vs) }
theorem stp_hid {A : At} {S : Store} {p : Addr} {vs : List V} (g : Gd A S) (n : A.H p = none) : Stp A (A.hid p vs) where
  K := rfl
  mg := rfl
  pre := fun _ _ h => h
  rd := fun q ws h => by
    rcases h with ⟨h1, h2, h3⟩ | h
    · obtain ⟨o, e, _⟩ := Rd.there h3
      have hq : q ≠ p := ne_of_none e n
      refine .inl ⟨h1, fun z => z.elim h2 hq, ?_⟩
      rcases h3 with h3 | ⟨b, h3⟩
      · exact .inl ((upd_ne hq).trans h3)
      · exact .inr ⟨b, (upd_ne hq).trans h3⟩
    · exact .inr h
  tp := fun q ws h => (upd_ne (ne_of_none h n)).trans h
theorem gd_hid {A : At} {S : Store} {p : Addr} {vs : List V} (g : Gd A S) (n : A.H p = none) : Gd (A.hid p vs) S where
  len := g.len
  nd := g.nd
  ok := fun k c q h1 h2 => by
    have hq : q ≠ p := fun z => by
      subst z
      exact g.there (List.mem_iff_getElem?.mpr ⟨k, h2⟩) n
    show CellR (A.hid p vs) c (upd A.H p (.lst vs) q)
    rw [upd_ne hq]
    exact (g.ok k c q h1 h2).step (stp_hid g n)
  noE := fun q hq z => z.elim (g.noE q hq) fun e => by
    subst e
    exact g.there hq n
  Es := fun q h => by
    show upd A.H p (.lst vs) q ≠ none
    by_cases hq : q = p
    · subst hq
      rw [upd_same]
      exact fun z => by cases z
    · rw [upd_ne hq]
      exact g.Es q (h.resolve_right hq)
/-- behind a turn: one item more -/
def At.app (A : At) (p : Addr) (vs : List V) : At := { A with H := upd A.H p (.lst vs) }
theorem stp_app {A : At} {p : Addr} {vs ws : List V} (hE : A.E p) (hH : A.H p = some (.lst vs)) : Stp A (A.app p ws) where
  K := rfl
  mg := rfl
  pre := fun _ _ h => h
  rd := fun q us h => by
    rcases h with ⟨h1, h2, h3⟩ | h
    · have hq : q ≠ p := fun z => h2 (by rw [z]; exact hE)
      refine .inl ⟨h1, h2, ?_⟩
      rcases h3 with h3 | ⟨b, h3⟩
      · exact .inl ((upd_ne hq).trans h3)
      · exact .inr ⟨b, (upd_ne hq).trans h3⟩
    · exact .inr h
  tp := fun q us h => (upd_ne (ne_of h hH (by intro z; cases z))).trans h
theorem gd_app {A : At} {S : Store} {p : Addr} {vs ws : List V} (g : Gd A S) (hE : A.E p) (hH : A.H p = some (.lst vs)) : Gd (A.app p ws) S where
  len := g.len
  nd := g.nd
  ok := fun k c q h1 h2 => by
    have hq : q ≠ p := fun z => by
      subst z
      exact g.noE q (List.mem_iff_getElem?.mpr ⟨k, h2⟩) hE
    show CellR (A.app p ws) c (upd A.H p (.lst ws) q)
    rw [upd_ne hq]
    exact (g.ok k c q h1 h2).step (stp_app hE hH)
  noE := g.noE
  Es := fun q h => by
    show upd A.H p (.lst ws) q ≠ none
    by_cases hq : q = p
    · subst hq
      rw [upd_same]
      exact fun z => by cases z
    · rw [upd_ne hq]
      exact g.Es q h
/-- the hidden list out in the open again -/
def At.bare (A : At) (E : Addr → Prop) : At := { A with E := E }
structure Mid (A0 : At) (p : Addr) (A : At) (S : Store) (acc : List D) : Prop where
  E : A.E = fun q => A0.E q ∨ q = p
  st : Stp A0 A
  x : Ext A0 (A.bare A0.E)
  g : Gd A S
  ex : ∃ vs, A.H p = some (.lst vs) ∧ RelL A acc vs
theorem Mid.E' {A0 : At} {p : Addr} {A : At} {S : Store} {acc : List D} (h : Mid A0 p A S acc) : A.E p := by
  rw [h.E]
  exact .inr rfl
theorem Mid.start {A0 : At} {S : Store} {p : Addr} (g : Gd A0 S) (n : A0.H p = none) : Mid A0 p (A0.hid p []) S [] where
  E := rfl
  st := stp_hid g n
  x := ⟨rfl, rfl, rfl, fun _ _ h => h, fun _ h => .inl h, fun q o _ e => (upd_ne (ne_of_none e n)).trans e⟩
  g := gd_hid g n
  ex := ⟨[], upd_same, .nil⟩
theorem Mid.on {A0 : At} {p : Addr} {A B : At} {S S' : Store} {acc : List D} (h : Mid A0 p A S acc) (x : Ext A B) (g : Gd B S') : Mid A0 p B S' acc where
  E := x.E.trans h.E
  st := by
    have s := x.step h.g
    exact ⟨s.K.trans h.st.K, s.mg.trans h.st.mg, fun n q e => s.pre n q (h.st.pre n q e), fun q vs e => s.rd q vs (h.st.rd q vs e), fun q vs e => s.tp q vs (h.st.tp q vs e)⟩
  x := by
    have x' : Ext (A.bare A0.E) (B.bare A0.E) := ⟨x.K, x.mg, rfl, x.pre, x.fresh, x.keep⟩
    exact h.x.trans x'
  g := g
  ex := by
    obtain ⟨vs, e, r⟩ := h.ex
    exact ⟨vs, x.keep p _ (fun z => h.g.noE p z h.E') e, RelL.step (x.step h.g) _ _ r⟩
theorem Mid.app {A0 : At} {S0 : Store} {p : Addr} {A : At} {S : Store} {acc : List D} {vs : List V} {y : D} {v : V} (g0 : Gd A0 S0) (n0 : A0.H p = none) (h : Mid A0 p A S acc) (hH : A.H p = some (.lst vs)) (r : RelL A acc vs) (ry : Rel A y v) : Mid A0 p (A.app p (vs ++ [v])) S (acc ++ [y]) where
  E := h.E
  st := by
    have s := stp_app (ws := vs ++ [v]) h.E' hH
    exact ⟨s.K.trans h.st.K, s.mg.trans h.st.mg, fun n q e => s.pre n q (h.st.pre n q e), fun q vs e => s.rd q vs (h.st.rd q vs e), fun q vs e => s.tp q vs (h.st.tp q vs e)⟩
  x := ⟨h.x.K, h.x.mg, rfl, h.x.pre, h.x.fresh, fun q o hq e => (upd_ne (ne_of_none e n0)).trans (h.x.keep q o hq e)⟩
  g := gd_app h.g h.E' hH
  ex := ⟨vs ++ [v], upd_same, RelL.step (stp_app h.E' hH) _ _ (r.append (.one ry))⟩
/-- the end: the list is a value like others -/
theorem Mid.done {A0 : At} {S0 : Store} {p : Addr} {A : At} {S : Store} {acc : List D} {Q : VK} {W : XK} (g0 : Gd A0 S0) (n0 : A0.H p = none) (h : Mid A0 p A S acc) (hz : acc.length ≤ sizeLine) (q : Post Rel A0 (.ok (.lst acc) S) Q W) : Q (.ref p) A.H := by
  obtain ⟨vs, hH, r⟩ := h.ex
  have hpm : p ∉ A.m := fun z => h.g.noE p z h.E'
  have st : Stp A (A.bare A0.E) := ⟨rfl, rfl, fun _ _ e => e, fun q ws e => by
    rcases e with ⟨e1, e2, e3⟩ | e
    · exact .inl ⟨e1, fun z => e2 (by rw [h.E]; exact .inl z), e3⟩
    · exact .inr e, fun _ _ e => e⟩
  have g' : Gd (A.bare A0.E) S := ⟨h.g.len, h.g.nd, fun k c q h1 h2 => (h.g.ok k c q h1 h2).step st, fun q hq z => h.g.noE q hq (by rw [h.E]; exact .inl z), fun q z => h.g.Es q (by rw [h.E]; exact .inl z)⟩
  exact q (.ref p) (A.bare A0.E) h.x g' ⟨p, vs, rfl, .inl ⟨hpm, fun z => g0.Es p z n0, .inl hH⟩, hz, RelL.step st _ _ r⟩
end LC

set_option maxHeartbeats 1000000
/-! LC11: list comprehensions. -/
namespace LC
open PySem PySem.Spec PyProof.Rows L2
abbrev W0 : WX := fun _ _ _ _ => False
abbrev TTo (K : PySem.W.Frag) (mg : Str → Option Value) : Option (Env → M D) → TT
  | none => tYes
  | some c => TTv K mg W0 (asBl c)
/-- a clause's tests, read -/
theorem rd_cond {K : PySem.W.Frag} {mg : Str → Option Value} {ec : Option (Env → M D)} {A : At} {ρ : Env} {S : Store} {σ : L2.St} {Q : Bool → Hp → Prop} (eK : A.K = K) (em : A.mg = mg) (g : Gd A S) (r : EnvR A ρ σ)
    (h : ∀ t S', M.nox (condM ec ρ) S = .ok t S' → ∀ B, Ext A B → Gd B S' → Q t B.H) (hb : M.nox (condM ec ρ) S ≠ .bad) : TTo K mg ec σ A.H Q := by
  cases ec with
  | none => exact h true S rfl A (Ext.refl A) g
  | some c =>
    refine ⟨A, ρ, S, eK, em, rfl, g, r, ?_⟩
    have e : M.nox (condM (some c) ρ) S = (asBl c ρ S).nox := rfl
    rw [e] at h hb
    cases q : asBl c ρ S with
    | ok t S' =>
      rw [q] at h
      intro v B x g' hv
      rw [hv]
      exact h t S' rfl B x g'
    | exc x S' => rw [q] at hb; exact absurd rfl hb
    | bad => rw [q] at hb; exact absurd rfl hb
/-- an element, read -/
theorem rd_elt {K : PySem.W.Frag} {mg : Str → Option Value} {ee : Env → M D} {A : At} {ρ : Env} {S : Store} {σ : L2.St} {Q : VK} (eK : A.K = K) (em : A.mg = mg) (g : Gd A S) (r : EnvR A ρ σ)
    (h : ∀ y S', M.nox (ee ρ) S = .ok y S' → ∀ v B, Ext A B → Gd B S' → Rel B y v → Q v B.H) (hb : M.nox (ee ρ) S ≠ .bad) : TEv K mg W0 ee σ A.H Q := by
  refine ⟨A, ρ, S, eK, em, rfl, g, r, ?_⟩
  have e : M.nox (ee ρ) S = (ee ρ S).nox := rfl
  rw [e] at h hb
  cases q : ee ρ S with
  | ok t S' =>
    rw [q] at h
    exact fun v B x g' hv => h t S' rfl v B x g' hv
  | exc x S' => rw [q] at hb; exact absurd rfl hb
  | bad => rw [q] at hb; exact absurd rfl hb
theorem Post.notBad {α β : Type} {rel : At → α → β → Prop} {A : At} {Q : β → Hp → Prop} {W : XK} {r : R α} (h : Post rel A r Q W) : r ≠ .bad := fun z => by
  rw [z] at h
  exact h
section
variable {X : Cx} {K : PySem.W.Frag} {mg : Str → Option Value} {W : WX} {pos : Pos} {elt tgE iter : Expr} {ifs : List Expr} {scope : Scope} {own : List (Str × Nat)} {es : Env → M Src} {tg : LT} {ec : Option (Env → M D)} {ee : Env → M D}
theorem rd_lc {vs : List Nat} (hsl : ∀ i ∈ tg.slots, i ∈ vs) {σ : L2.St} {H : Hp} {Q : VK} (h : TEv K mg W (lcM vs es tg ec ee) σ H Q) :
    tLc (TIv K mg W es) (TGv K mg tg) (TTo K mg ec) (TEv K mg W0 ee) vs σ H Q := by
  obtain ⟨A, ρ, S, eK, em, eH, g, r1, h⟩ := h
  refine ⟨A, ρ, S, eK, em, eH, g, r1, Rdg.bind h fun s S1 J B eq x1 g1 q1 h1 => ?_⟩
  have eKB : B.K = K := x1.K.trans eK
  have emB : B.mg = mg := x1.mg.trans em
  have rB : EnvR B ρ σ := r1.step (x1.step g)
  intro p hp
  refine ⟨fun i m H' => ∃ (C : At) (S' : Store) (acc : List D), C.H = H' ∧ Mid B p C S' acc ∧ (acc.length ≤ i ∧ i ≤ sizeLine) ∧ Post Rel B ((walkGo s (lcBody vs tg ec ee ρ) m i acc S').bind fun ys => M.pure (.lst ys)) Q (fun c d H' => W c d σ H'),
    ⟨srcFuel s S1, B.hid p [], S1, [], rfl, Mid.start g1 hp, ⟨Nat.le_refl _, Nat.zero_le _⟩, h1⟩, ?_⟩
  rintro i m H' ⟨C, S', acc, rfl, mid, ⟨hl, hi2⟩, h2⟩
  cases m with
  | zero => exact h2.elim
  | succ m =>
    have e2 : walkGo s (lcBody vs tg ec ee ρ) (m + 1) i acc S' = (match srcAt s S' i with
      | none => .bad
      | some none => .ok acc S'
      | some (some d) => (lcBody vs tg ec ee ρ acc d S').bind fun acc' => walkGo s (lcBody vs tg ec ee ρ) m (i + 1) acc') := rfl
    rw [e2] at h2
    cases e : srcAt s S' i with
    | none => rw [e] at h2; exact h2.elim
    | some r =>
      have hw := q1 C S' mid.st mid.g i r e
      rw [e] at h2
      cases r with
      | none => exact .inl ⟨hw, mid.done g1 hp (Nat.le_trans hl hi2) h2⟩
      | some d =>
        obtain ⟨hi, hgo, hy⟩ := hw
        refine .inr ⟨hgo, _, fun H' z => z, fun x H' y => ?_⟩
        obtain ⟨G, rfl, x2, g2, r2⟩ := hy x H' y
        have mid2 := mid.on x2 g2
        have eKG : G.K = K := mid2.st.K.trans eKB
        have emG : G.mg = mg := mid2.st.mg.trans emB
        have rG : EnvR G (wipeE ρ vs) (wipe σ vs) := (rB.step mid2.st).wipe vs
        have h2 : Post Rel B (((lcBody vs tg ec ee ρ acc d S').bind fun acc' => walkGo s (lcBody vs tg ec ee ρ) m (i + 1) acc').bind fun ys => M.pure (.lst ys)) Q (fun c d H' => W c d σ H') := h2
        unfold lcBody at h2
        cases ea : asgT tg d (wipeE ρ vs) with
        | none => rw [ea] at h2; exact h2.elim
        | some ρ' =>
          rw [ea] at h2
          simp only [M.bind_ap] at h2
          refine ⟨G, wipeE ρ vs, ρ', S', d, eKG, emG, rfl, g2, rG, r2, ea, fun σ2 rσ al => ⟨(al vs hsl).trans (wipe_idem σ vs), ?_⟩⟩
          refine rd_cond eKG emG g2 rσ (fun t S2 et C2 x3 g3 => ?_) fun z => by rw [z] at h2; exact h2.elim
          rw [et] at h2
          simp only [R.bind_ok] at h2
          have mid3 := mid2.on x3 g3
          cases t with
          | false =>
            rw [if_neg Bool.false_ne_true]
            rw [if_neg Bool.false_ne_true] at h2
            exact ⟨m, Nat.lt_succ_self m, C2, S2, acc, rfl, mid3, ⟨Nat.le_succ_of_le hl, hi⟩, h2⟩
          | true =>
            rw [if_pos rfl]
            rw [if_pos rfl] at h2
            simp only [M.bind_ap] at h2
            refine rd_elt (x3.K.trans eKG) (x3.mg.trans emG) g3 (rσ.step (x3.step g2)) (fun y S3 ey v C3 x4 g4 ry => ?_) fun z => by rw [z] at h2; exact h2.elim
            rw [ey] at h2
            simp only [R.bind_ok, M.pure_ap] at h2
            have mid4 := mid3.on x4 g4
            obtain ⟨ws, hws, rws⟩ := mid4.ex
            refine ⟨ws, hws, by rw [rws.len]; exact Nat.lt_of_le_of_lt hl hi, ?_⟩
            exact ⟨m, Nat.lt_succ_self m, C3.app p (ws ++ [v]), S3, acc ++ [y], rfl, mid4.app g1 hp hws rws ry, ⟨by rw [List.length_append]; exact Nat.succ_le_succ hl, hi⟩, h2⟩
theorem sE_lc {vs : List Nat} (hvs : vs = own.map (·.2)) (hsl : ∀ i ∈ tg.slots, i ∈ vs) (hc : X.calm = true) (hN : X.N.Nodup) (hi : PI X tgE iter (TIv K mg W es)) (ok : BlkOk X.N X.env.scope scope own)
    (hg : ∀ (s : Shared) (H : Hp) (C : Addr) (cl : List (Str × Addr)) (fp : List Addr), PG (X.blk s H scope (compEnvC scope cl C X.env) fp) tgE (TGv K mg tg))
    (ht : ∀ (s : Shared) (H : Hp) (C : Addr) (cl : List (Str × Addr)) (fp : List Addr), PTs (X.blk s H scope (compEnvC scope cl C X.env) fp) ifs (TTo K mg ec))
    (he : ∀ (s : Shared) (H : Hp) (C : Addr) (cl : List (Str × Addr)) (fp : List Addr), PE (X.blk s H scope (compEnvC scope cl C X.env) fp) elt (TEv K mg W0 ee)) (hs : ∀ x, foldedSetIterable iter X.env x = pure x) :
    PE X (.ListComp elt [⟨tgE, iter, ifs, 0⟩] scope pos) (TEv K mg W (lcM vs es tg ec ee)) := by
  subst hvs
  exact (pe_lc hc hN hi ok hg ht he hs).less fun σ H Q h => rd_lc hsl h

/-! ### two clauses -/
def lcBody1 (vs1 : List Nat) (tg1 : LT) (ec1 : Option (Env → M D)) (ee : Env → M D) (ρ : Env) (acc : List D) (d : D) : M (List D) := match asgT tg1 d (wipeE ρ vs1) with
  | none => M.bad
  | some ρ' => M.bind (M.nox (condM ec1 ρ')) fun t => if t = true then M.bind (M.nox (ee ρ')) fun y => if acc.length < line then M.pure (acc ++ [y]) else M.bad else M.pure acc
def lcBody2 (vs vs1 : List Nat) (tg : LT) (ec : Option (Env → M D)) (es1 : Env → M Src) (tg1 : LT) (ec1 : Option (Env → M D)) (ee : Env → M D) (ρ : Env) (acc : List D) (d : D) : M (List D) := match asgT tg d (wipeE ρ vs) with
  | none => M.bad
  | some ρ' => M.bind (M.nox (condM ec ρ')) fun t => if t = true then M.bind (M.nox (es1 ρ')) fun s1 => walkAll s1 (lcBody1 vs1 tg1 ec1 ee ρ') acc else M.pure acc
def lc2M (vs vs1 : List Nat) (es : Env → M Src) (tg : LT) (ec : Option (Env → M D)) (es1 : Env → M Src) (tg1 : LT) (ec1 : Option (Env → M D)) (ee : Env → M D) : Env → M D := fun ρ => M.bind (es ρ) fun s => M.bind (walkAll s (lcBody2 vs vs1 tg ec es1 tg1 ec1 ee ρ) []) fun ys => M.pure (.lst ys)
theorem rd_src {K : PySem.W.Frag} {mg : Str → Option Value} {es : Env → M Src} {A : At} {ρ : Env} {S : Store} {σ : L2.St} {Q : It → Hp → Prop} (eK : A.K = K) (em : A.mg = mg) (g : Gd A S) (r : EnvR A ρ σ)
    (h : ∀ s S', M.nox (es ρ) S = .ok s S' → ∀ J B, Ext A B → Gd B S' → Walks B s J → Q J B.H) (hb : M.nox (es ρ) S ≠ .bad) : TIv K mg W0 es σ A.H Q := by
  refine ⟨A, ρ, S, eK, em, rfl, g, r, ?_⟩
  have e : M.nox (es ρ) S = (es ρ S).nox := rfl
  rw [e] at h hb
  cases q : es ρ S with
  | ok t S' =>
    rw [q] at h
    exact fun v B x g' hv => h t S' rfl v B x g' hv
  | exc x S' => rw [q] at hb; exact absurd rfl hb
  | bad => rw [q] at hb; exact absurd rfl hb
variable {tg1E iter1 : Expr} {ifs1 : List Expr} {es1 : Env → M Src} {tg1 : LT} {ec1 : Option (Env → M D)}
theorem rd_lc2 {vs vs1 : List Nat} (hsl : ∀ i ∈ tg.slots, i ∈ vs) (hsl1 : ∀ i ∈ tg1.slots, i ∈ vs1) {σ : L2.St} {H : Hp} {Q : VK} (h : TEv K mg W (lc2M vs vs1 es tg ec es1 tg1 ec1 ee) σ H Q) :
    tLc2 (TIv K mg W es) (TGv K mg tg) (TTo K mg ec) (TIv K mg W0 es1) (TGv K mg tg1) (TTo K mg ec1) (TEv K mg W0 ee) vs vs1 σ H Q := by
  obtain ⟨A, ρ, S, eK, em, eH, g, r1, h⟩ := h
  refine ⟨A, ρ, S, eK, em, eH, g, r1, Rdg.bind h fun s S1 J B eq x1 g1 q1 h1 => ?_⟩
  have eKB : B.K = K := x1.K.trans eK
  have emB : B.mg = mg := x1.mg.trans em
  have rB : EnvR B ρ σ := r1.step (x1.step g)
  intro p hp
  generalize hb2 : lcBody2 vs vs1 tg ec es1 tg1 ec1 ee ρ = body at h1
  refine ⟨fun i m H' => ∃ (C : At) (S' : Store) (acc : List D), C.H = H' ∧ Mid B p C S' acc ∧ acc.length ≤ sizeLine ∧ Post Rel B ((walkGo s body m i acc S').bind fun ys => M.pure (.lst ys)) Q (fun c d H' => W c d σ H'),
    ⟨srcFuel s S1, B.hid p [], S1, [], rfl, Mid.start g1 hp, Nat.zero_le _, h1⟩, ?_⟩
  rintro i m H' ⟨C, S', acc, rfl, mid, hl, h2⟩
  cases m with
  | zero => exact h2.elim
  | succ m =>
    have e2 : walkGo s body (m + 1) i acc S' = (match srcAt s S' i with
      | none => .bad
      | some none => .ok acc S'
      | some (some d) => (body acc d S').bind fun acc' => walkGo s body m (i + 1) acc') := rfl
    rw [e2] at h2
    cases e : srcAt s S' i with
    | none => rw [e] at h2; exact h2.elim
    | some r =>
      have hw := q1 C S' mid.st mid.g i r e
      rw [e] at h2
      cases r with
      | none => exact .inl ⟨hw, mid.done g1 hp hl h2⟩
      | some d =>
        obtain ⟨hi, hgo, hy⟩ := hw
        refine .inr ⟨hgo, _, fun H' z => z, fun x H' y => ?_⟩
        obtain ⟨G, rfl, x2, g2, r2⟩ := hy x H' y
        have mid2 := mid.on x2 g2
        have eKG : G.K = K := mid2.st.K.trans eKB
        have emG : G.mg = mg := mid2.st.mg.trans emB
        have rG : EnvR G (wipeE ρ vs) (wipe σ vs) := (rB.step mid2.st).wipe vs
        have h2 : Post Rel B (((lcBody2 vs vs1 tg ec es1 tg1 ec1 ee ρ acc d S').bind fun acc' => walkGo s body m (i + 1) acc').bind fun ys => M.pure (.lst ys)) Q (fun c d H' => W c d σ H') := by
          rw [hb2]
          exact h2
        unfold lcBody2 at h2
        cases ea : asgT tg d (wipeE ρ vs) with
        | none => rw [ea] at h2; exact h2.elim
        | some ρ' =>
          rw [ea] at h2
          simp only [M.bind_ap] at h2
          refine ⟨G, wipeE ρ vs, ρ', S', d, eKG, emG, rfl, g2, rG, r2, ea, fun σ2 rσ al => ⟨(al vs hsl).trans (wipe_idem σ vs), ?_⟩⟩
          refine rd_cond eKG emG g2 rσ (fun t S2 et C2 x3 g3 => ?_) fun z => by rw [z] at h2; exact h2.elim
          rw [et] at h2
          simp only [R.bind_ok] at h2
          have mid3 := mid2.on x3 g3
          cases t with
          | false =>
            rw [if_neg Bool.false_ne_true]
            rw [if_neg Bool.false_ne_true] at h2
            exact ⟨m, Nat.lt_succ_self m, C2, S2, acc, rfl, mid3, hl, h2⟩
          | true =>
            rw [if_pos rfl]
            rw [if_pos rfl] at h2
            simp only [M.bind_ap] at h2
            refine rd_src (x3.K.trans eKG) (x3.mg.trans emG) g3 (rσ.step (x3.step g2)) (fun s1 S3 es3 J1 C3 x4 g4 q4 => ?_) fun z => by rw [z] at h2; exact h2.elim
            rw [es3] at h2
            simp only [R.bind_ok] at h2
            have mid4 := mid3.on x4 g4
            have rσ4 : EnvR C3 ρ' σ2 := (rσ.step (x3.step g2)).step (x4.step g3)
            have eK3 : C3.K = K := x4.K.trans (x3.K.trans eKG)
            have em3 : C3.mg = mg := x4.mg.trans (x3.mg.trans emG)
            -- the inner walk
            refine ⟨fun j k H' => ∃ (C4 : At) (S4 : Store) (acc4 : List D), C4.H = H' ∧ Mid B p C4 S4 acc4 ∧ Stp C3 C4 ∧ acc4.length ≤ sizeLine ∧
                Post Rel B (((walkGo s1 (lcBody1 vs1 tg1 ec1 ee ρ') k j acc4 S4).bind fun acc' => walkGo s body m (i + 1) acc').bind fun ys => M.pure (.lst ys)) Q (fun c d H' => W c d σ H'),
              ⟨srcFuel s1 S3, C3, S3, acc, rfl, mid4, (Ext.refl C3).step g4, hl, h2⟩, ?_⟩
            rintro j k H' ⟨C4, S4, acc4, rfl, mid5, st5, hl4, h5⟩
            cases k with
            | zero => exact h5.elim
            | succ k =>
              have e5 : walkGo s1 (lcBody1 vs1 tg1 ec1 ee ρ') (k + 1) j acc4 S4 = (match srcAt s1 S4 j with
                | none => .bad
                | some none => .ok acc4 S4
                | some (some d) => (lcBody1 vs1 tg1 ec1 ee ρ' acc4 d S4).bind fun acc' => walkGo s1 (lcBody1 vs1 tg1 ec1 ee ρ') k (j + 1) acc') := rfl
              rw [e5] at h5
              cases e6 : srcAt s1 S4 j with
              | none => rw [e6] at h5; exact h5.elim
              | some r =>
                have hw1 := q4 C4 S4 st5 mid5.g j r e6
                rw [e6] at h5
                cases r with
                | none => exact .inl ⟨hw1, m, Nat.lt_succ_self m, C4, S4, acc4, rfl, mid5, hl4, h5⟩
                | some d1 =>
                  obtain ⟨_, hgo1, hy1⟩ := hw1
                  refine .inr ⟨hgo1, _, fun H' z => z, fun x' H' y' => ?_⟩
                  obtain ⟨G1, rfl, x6, g6, r6⟩ := hy1 x' H' y'
                  have mid6 := mid5.on x6 g6
                  have st6 : Stp C3 G1 := by
                    have s := x6.step mid5.g
                    exact ⟨s.K.trans st5.K, s.mg.trans st5.mg, fun n q e => s.pre n q (st5.pre n q e), fun q vs e => s.rd q vs (st5.rd q vs e), fun q vs e => s.tp q vs (st5.tp q vs e)⟩
                  have eK6 : G1.K = K := st6.K.trans eK3
                  have em6 : G1.mg = mg := st6.mg.trans em3
                  have h5 : Post Rel B (((((lcBody1 vs1 tg1 ec1 ee ρ' acc4 d1 S4).bind fun acc' => walkGo s1 (lcBody1 vs1 tg1 ec1 ee ρ') k (j + 1) acc')).bind fun acc' => walkGo s body m (i + 1) acc').bind fun ys => M.pure (.lst ys)) Q (fun c d H' => W c d σ H') := h5
                  unfold lcBody1 at h5
                  cases ea1 : asgT tg1 d1 (wipeE ρ' vs1) with
                  | none => rw [ea1] at h5; exact h5.elim
                  | some ρ2 =>
                    rw [ea1] at h5
                    simp only [M.bind_ap] at h5
                    refine ⟨G1, wipeE ρ' vs1, ρ2, S4, d1, eK6, em6, rfl, g6, (rσ4.step st6).wipe vs1, r6, ea1, fun σ3 rσ3 al1 => ⟨(al1 vs1 hsl1).trans (wipe_idem σ2 vs1), ?_⟩⟩
                    refine rd_cond eK6 em6 g6 rσ3 (fun t S5 et5 C5 x7 g7 => ?_) fun z => by rw [z] at h5; exact h5.elim
                    rw [et5] at h5
                    simp only [R.bind_ok] at h5
                    have mid7 := mid6.on x7 g7
                    have st7 : Stp C3 C5 := by
                      have s := x7.step g6
                      exact ⟨s.K.trans st6.K, s.mg.trans st6.mg, fun n q e => s.pre n q (st6.pre n q e), fun q vs e => s.rd q vs (st6.rd q vs e), fun q vs e => s.tp q vs (st6.tp q vs e)⟩
                    cases t with
                    | false =>
                      rw [if_neg Bool.false_ne_true]
                      rw [if_neg Bool.false_ne_true] at h5
                      exact ⟨k, Nat.lt_succ_self k, C5, S5, acc4, rfl, mid7, st7, hl4, h5⟩
                    | true =>
                      rw [if_pos rfl]
                      rw [if_pos rfl] at h5
                      simp only [M.bind_ap] at h5
                      refine rd_elt (x7.K.trans eK6) (x7.mg.trans em6) g7 (rσ3.step (x7.step g6)) (fun y S6 ey v C6 x8 g8 ry => ?_) fun z => by rw [z] at h5; exact h5.elim
                      rw [ey] at h5
                      simp only [R.bind_ok] at h5
                      have mid8 := mid7.on x8 g8
                      obtain ⟨ws, hws, rws⟩ := mid8.ex
                      by_cases hlt : acc4.length < line
                      · rw [if_pos hlt] at h5
                        simp only [M.pure_ap, R.bind_ok] at h5
                        rw [line_eq] at hlt
                        have st8 : Stp C3 (C6.app p (ws ++ [v])) := by
                          have s := x8.step g7
                          have s' := stp_app (ws := ws ++ [v]) mid8.E' hws
                          exact ⟨s'.K.trans (s.K.trans st7.K), s'.mg.trans (s.mg.trans st7.mg), fun n q e => s'.pre n q (s.pre n q (st7.pre n q e)), fun q vs e => s'.rd q vs (s.rd q vs (st7.rd q vs e)), fun q vs e => s'.tp q vs (s.tp q vs (st7.tp q vs e))⟩
                        refine ⟨ws, hws, by rw [rws.len]; exact hlt, ?_⟩
                        exact ⟨k, Nat.lt_succ_self k, C6.app p (ws ++ [v]), S6, acc4 ++ [y], rfl, mid8.app g1 hp hws rws ry, st8, by rw [List.length_append]; exact hlt, h5⟩
                      · rw [if_neg hlt] at h5
                        exact h5.elim
end
end LC

set_option maxHeartbeats 1000000
/-! LC12: calls of the text's own defs; statements. -/
namespace LC
open PySem PySem.Spec PyProof.Rows L2
section
variable {X : Cx} {K : PySem.W.Frag} {mg : Str → Option Value} {W : WX} {pos : Pos} {elt tgE iter : Expr} {ifs : List Expr} {scope : Scope} {own : List (Str × Nat)} {es : Env → M Src} {tg : LT} {ec : Option (Env → M D)} {ee : Env → M D}
  {tg1E iter1 : Expr} {ifs1 : List Expr} {es1 : Env → M Src} {tg1 : LT} {ec1 : Option (Env → M D)}
theorem sE_lc2 {vs vs1 : List Nat} (hvs : vs = own.map (·.2)) (hv : ∀ i ∈ vs1, i ∈ own.map (·.2)) (hsl : ∀ i ∈ tg.slots, i ∈ vs) (hsl1 : ∀ i ∈ tg1.slots, i ∈ vs1) (hc : X.calm = true) (hN : X.N.Nodup) (hi : PI X tgE iter (TIv K mg W es)) (ok : BlkOk X.N X.env.scope scope own)
    (hg : ∀ (s : Shared) (H : Hp) (C : Addr) (cl : List (Str × Addr)) (fp : List Addr), PG (X.blk s H scope (compEnvC scope cl C X.env) fp) tgE (TGv K mg tg))
    (ht : ∀ (s : Shared) (H : Hp) (C : Addr) (cl : List (Str × Addr)) (fp : List Addr), PTs (X.blk s H scope (compEnvC scope cl C X.env) fp) ifs (TTo K mg ec))
    (hi1 : ∀ (s : Shared) (H : Hp) (C : Addr) (cl : List (Str × Addr)) (fp : List Addr), PI (X.blk s H scope (compEnvC scope cl C X.env) fp) tg1E iter1 (TIv K mg W0 es1))
    (hg1 : ∀ (s : Shared) (H : Hp) (C : Addr) (cl : List (Str × Addr)) (fp : List Addr), PG (X.blk s H scope (compEnvC scope cl C X.env) fp) tg1E (TGv K mg tg1))
    (ht1 : ∀ (s : Shared) (H : Hp) (C : Addr) (cl : List (Str × Addr)) (fp : List Addr), PTs (X.blk s H scope (compEnvC scope cl C X.env) fp) ifs1 (TTo K mg ec1))
    (he : ∀ (s : Shared) (H : Hp) (C : Addr) (cl : List (Str × Addr)) (fp : List Addr), PE (X.blk s H scope (compEnvC scope cl C X.env) fp) elt (TEv K mg W0 ee)) (hs : ∀ x, foldedSetIterable iter X.env x = pure x) (hs1 : ∀ env x, foldedSetIterable iter1 env x = pure x) :
    PE X (.ListComp elt [⟨tgE, iter, ifs, 0⟩, ⟨tg1E, iter1, ifs1, 0⟩] scope pos) (TEv K mg W (lc2M vs vs1 es tg ec es1 tg1 ec1 ee)) := by
  subst hvs
  exact (pe_lc2 hc hN hi ok hv hg ht hi1 hg1 ht1 he hs hs1).less fun σ H Q h => rd_lc2 hsl hsl1 h
theorem fold_of {e : Expr} (h : (match e with | .Set .. => false | _ => true) = true) (env : PySem.Env) (x : Value) : foldedSetIterable e env x = pure x := by
  cases e <;> first | rfl | cases h
end

/-! ### a def of the text -/
def spF (K : PySem.W.Frag) (mg : Str → Option Value) (np : Nat) (cf : List D → M D) : Sp := fun vs H Q E => vs.length = np ∧ ∃ (A : At) (ds : List D) (S : Store), A.K = K ∧ A.mg = mg ∧ A.H = H ∧ Gd A S ∧ RelL A ds vs ∧ Post Rel A (cf ds S) Q E
/-- the def f stands at its place, with np parameters, and does what cf says -/
def FnAt (P : Program) (w : World) (K : PySem.W.Frag) (mg : Str → Option Value) (base : Heap) (k : Nat) (f : Str) (np : Nat) (cf : List D → M D) : Prop :=
  ∃ (a : Addr) (fd : FuncData) (ps : List Str), mg f = some (.ref a) ∧ PySem.W.keepIn K (.ref a) = true ∧ Binds K fd ps [] ∧ ps.length = np ∧ FnOk P w K mg base (L2.CX P w) k a fd ps (spF K mg np cf)
section
variable {X : Cx} {K : PySem.W.Frag} {mg : Str → Option Value} {W : WX} {pos p : Pos} {e : Expr} {rest : List Expr} {el : Env → M (List D)} {k np : Nat} {f : Str} {cf : List D → M D}
theorem sE_call (eK : X.K = K) (em : X.mg = mg) (F : FnAt X.prog X.w K mg X.base k f np cf) (hr : Room k X.A) (tk : Takes X W) (hg : Gl X f) (hl : LenIs el np) (hdb : (f == ("__debug__" : Str)) = false) (hst : ∀ z ∈ e :: rest, isStar z = false)
    (ha : PA X (e :: rest) (TAv K mg W el)) : PE X (.Call (.Name f p) (e :: rest) [] pos) (TEv K mg W fun ρ => M.bind (el ρ) cf) := by
  subst eK em
  obtain ⟨a, fd, ps, hm, hk, hb, _, F⟩ := F
  refine (pe_callS F hr hg hm hk hb (fun σ => passAt tk σ) ha hdb (star_of (hst e List.mem_cons_self)) (star_any fun z hz => hst z (List.mem_cons_of_mem _ hz))).less fun σ H Q h => ?_
  obtain ⟨A, ρ, S, eK, em, eH, g, r1, h⟩ := h
  refine ⟨A, ρ, S, eK, em, eH, g, r1, Rdg.bind h fun xs S1 vs B eq x1 g1 q1 h1 => ?_⟩
  exact ⟨by rw [q1.len]; exact hl _ _ _ _ eq, B, xs, S1, x1.K.trans eK, x1.mg.trans em, rfl, g1, q1, h1⟩
theorem sE_call0 (eK : X.K = K) (em : X.mg = mg) (F : FnAt X.prog X.w K mg X.base k f 0 cf) (hr : Room k X.A) (hg : Gl X f) (hdb : (f == ("__debug__" : Str)) = false) : PE X (.Call (.Name f p) [] [] pos) (TEv K mg W fun _ => M.nox (cf [])) := by
  subst eK em
  obtain ⟨a, fd, ps, hm, hk, hb, _, F⟩ := F
  refine (pe_call0 F hr hg hm hk hb .nil passL hdb).less fun σ H Q h => ?_
  obtain ⟨A, ρ, S, eK, em, eH, g, r1, h⟩ := h
  refine ⟨rfl, A, [], S, eK, em, eH, g, rfl, ?_⟩
  have h : Post Rel A ((cf [] S).nox) Q (fun c d H' => W c d σ H') := h
  cases e : cf [] S with
  | ok d S' => rw [e] at h; exact h
  | exc x S' => rw [e] at h; exact h.elim
  | bad => rw [e] at h; exact h
end

/-! ### statements -/
inductive Fl where
  | nx (ρ : Env)
  | rt (d : D)
def PostS (A : At) (r : R Fl) (D : Ends) (W : XK) : Prop := match r with
  | .ok (.nx ρ') S => ∀ (σ' : L2.St) (B : At), Ext A B → Gd B S → EnvR B ρ' σ' → D.nx σ' B.H
  | .ok (.rt d) S => ∀ (v : V) (B : At), Ext A B → Gd B S → Rel B d v → D.rt v B.H
  | .exc x S => ∀ B : At, Ext A B → Gd B S → ∃ C, A.mg x = some (.ref C) ∧ W (.ref C) none B.H
  | .bad => False
theorem PostS.ext {A B : At} {r : R Fl} {D : Ends} {W : XK} (x : Ext A B) (h : PostS A r D W) : PostS B r D W := by
  cases r with
  | ok f S =>
    cases f with
    | nx ρ => exact fun σ' C y g k => h σ' C (x.trans y) g k
    | rt d => exact fun v C y g k => h v C (x.trans y) g k
  | exc e S =>
    intro C y g
    obtain ⟨c, h1, h2⟩ := h C (x.trans y) g
    exact ⟨c, by rw [x.mg]; exact h1, h2⟩
  | bad => exact h
def TSv (K : PySem.W.Frag) (mg : Str → Option Value) (W : XK) (ex : Env → M Fl) : TS := fun D σ H =>
  ∃ (A : At) (ρ : Env) (S : Store), A.K = K ∧ A.mg = mg ∧ A.H = H ∧ Gd A S ∧ EnvR A ρ σ ∧ PostS A (ex ρ S) D W
/-- an expression ahead of the rest of a statement -/
theorem PostS.bind {α β : Type} {rel : At → α → β → Prop} {W : XK} {A : At} {S : Store} {m : M α} {f : α → M Fl} {D : Ends} {Q' : β → Hp → Prop}
    (h : PostS A ((m S).bind f) D W)
    (k : ∀ a S1 v B, m S = .ok a S1 → Ext A B → Gd B S1 → rel B a v → PostS B (f a S1) D W → Q' v B.H) : Post rel A (m S) Q' W := by
  cases e : m S with
  | ok a S1 =>
    rw [e] at h
    exact fun v B x g r => k a S1 v B e x g r (PostS.ext x h)
  | exc x S1 => rw [e] at h; exact h
  | bad => rw [e] at h; exact h
abbrev WS (E : XK) : WX := fun c d _ H => E c d H
def xPass : Env → M Fl := fun ρ => M.pure (.nx ρ)
def xSeq (a b : Env → M Fl) : Env → M Fl := fun ρ => M.bind (a ρ) fun f => match f with
  | .nx ρ' => b ρ'
  | .rt d => M.pure (.rt d)
def xSet (i : Nat) (e : Env → M D) : Env → M Fl := fun ρ => M.bind (e ρ) fun d => M.pure (.nx (ρ.set i (some d)))
def xAsg (tg : LT) (e : Env → M D) : Env → M Fl := fun ρ => M.bind (e ρ) fun d => match asgT tg d ρ with
  | some ρ' => M.pure (.nx ρ')
  | none => M.bad
def xEx (e : Env → M D) : Env → M Fl := fun ρ => M.bind (e ρ) fun _ => M.pure (.nx ρ)
def xRet (e : Env → M D) : Env → M Fl := fun ρ => M.bind (e ρ) fun d => M.pure (.rt d)
def xIf (c : Env → M D) (a b : Env → M Fl) : Env → M Fl := fun ρ => M.bind (asBl c ρ) fun t => if t = true then a ρ else b ρ
def xRaise (x : Str) : Env → M Fl := fun _ S => .exc x S
section
variable {X : Cx} {K : PySem.W.Frag} {mg : Str → Option Value} {E : XK} {pos p : Pos} {e : Expr} {ee : Env → M D} {st : Stmt} {sts : List Stmt} {xa xb : Env → M Fl}
theorem sS_nil : PSs X [] (TSv K mg E xPass) := pss_nil.less fun D σ H h => by
  obtain ⟨A, ρ, S, eK, em, rfl, g, r, h⟩ := h
  exact h σ A (Ext.refl A) g r
theorem sS_pass : PS X (.Pass pos) (TSv K mg E xPass) := ps_pass.less fun D σ H h => by
  obtain ⟨A, ρ, S, eK, em, rfl, g, r, h⟩ := h
  exact h σ A (Ext.refl A) g r
theorem sS_cons (h1 : PS X st (TSv K mg E xa)) (h2 : PSs X sts (TSv K mg E xb)) : PSs X (st :: sts) (TSv K mg E (xSeq xa xb)) :=
  (pss_cons h1 h2).less fun D σ H h => by
    obtain ⟨A, ρ, S, eK, em, eH, g, r, h⟩ := h
    refine ⟨A, ρ, S, eK, em, eH, g, r, ?_⟩
    have h : PostS A ((xa ρ S).bind fun f => match f with
      | .nx ρ' => xb ρ'
      | .rt d => M.pure (.rt d)) D E := h
    cases q : xa ρ S with
    | ok f S1 =>
      rw [q] at h
      cases f with
      | nx ρ' => exact fun σ' B x g' r' => ⟨B, ρ', S1, x.K.trans eK, x.mg.trans em, rfl, g', r', PostS.ext x h⟩
      | rt d => exact h
    | exc x S1 => rw [q] at h; exact h
    | bad => rw [q] at h; exact h
theorem sS_one (h1 : PS X st (TSv K mg E xa)) : PSs X [st] (TSv K mg E xa) := pss_one h1
theorem notLc_swaps {t : Option Expr} {l : Nat} {env : PySem.Env} (h : (match e with | .ListComp .. => false | .SetComp .. => false | .DictComp .. => false | _ => true) = true) : swapsWith e t l env = pure false := by
  cases e <;> first | rfl | cases h
theorem sS_set {i : Nat} {x : Str} (hN : X.N.Nodup) (hi : X.N[i]? = some x) (hx : Loc X.env.scope x) (he : PE X e (TEv K mg (WS E) ee)) (hs : swapsWith e (some (.Name x p)) pos.line X.env = pure false) (hf : X.fn x = true ∨ X.env.scope.names.lookup x = some .local) :
    PS X (.Assign [.Name x p] e pos) (TSv K mg E (xSet i ee)) :=
  (ps_set hN hi hx he hs hf).less fun D σ H h => by
    obtain ⟨A, ρ, S, eK, em, eH, g, r, h⟩ := h
    refine ⟨A, ρ, S, eK, em, eH, g, r, PostS.bind h fun d S1 v B _ x1 g1 q1 h1 => ?_⟩
    exact h1 _ B (Ext.refl B) g1 ((r.step (x1.step g)).set q1)
theorem sS_ret (he : PE X e (TEv K mg (WS E) ee)) : PS X (.Return (some e) pos) (TSv K mg E (xRet ee)) :=
  (ps_ret he).less fun D σ H h => by
    obtain ⟨A, ρ, S, eK, em, eH, g, r, h⟩ := h
    refine ⟨A, ρ, S, eK, em, eH, g, r, PostS.bind h fun d S1 v B _ x1 g1 q1 h1 => ?_⟩
    exact h1 v B (Ext.refl B) g1 q1
theorem sS_expr (he : PE X e (TEv K mg (WS E) ee)) (hs : swapsWith e none pos.line X.env = pure false) : PS X (.Expr e pos) (TSv K mg E (xEx ee)) :=
  (ps_expr he hs).less fun D σ H h => by
    obtain ⟨A, ρ, S, eK, em, eH, g, r, h⟩ := h
    refine ⟨A, ρ, S, eK, em, eH, g, r, PostS.bind h fun d S1 v B _ x1 g1 q1 h1 => ?_⟩
    exact h1 σ B (Ext.refl B) g1 (r.step (x1.step g))
theorem sS_if {c : Expr} {a b : List Stmt} {ec : Env → M D} (hc : PT X c (TTv K mg (WS E) (asBl ec))) (ha : PSs X a (TSv K mg E xa)) (hb : PSs X b (TSv K mg E xb)) : PS X (.If c a b pos) (TSv K mg E (xIf ec xa xb)) :=
  (ps_if hc ha hb).less fun D σ H h => by
    obtain ⟨A, ρ, S, eK, em, eH, g, r, h⟩ := h
    refine ⟨A, ρ, S, eK, em, eH, g, r, PostS.bind h fun t S1 v B _ x1 g1 q1 h1 => ?_⟩
    subst q1
    cases v with
    | true => exact ⟨B, ρ, S1, x1.K.trans eK, x1.mg.trans em, rfl, g1, r.step (x1.step g), h1⟩
    | false => exact ⟨B, ρ, S1, x1.K.trans eK, x1.mg.trans em, rfl, g1, r.step (x1.step g), h1⟩
/-- a, b = e -/
theorem sS_asg {tgE : Expr} {tg : LT} (he : PE X e (TEv K mg (WS E) ee)) (hg : PG X tgE (TGv K mg tg)) (hs : swapsWithSole [tgE] e pos.line X.env = pure false) (hw : swappedStores [tgE] e X.env = pure none) (h1 : (assignEach [tgE] X.env).map (·.2) = [assign tgE X.env]) :
    PS X (.Assign [tgE] e pos) (TSv K mg E (xAsg tg ee)) :=
  (ps_asg he hg hs hw h1).less fun D σ H h => by
    obtain ⟨A, ρ, S, eK, em, eH, g, r, h⟩ := h
    refine ⟨A, ρ, S, eK, em, eH, g, r, PostS.bind h fun d S1 v B _ x1 g1 q1 h1 => ?_⟩
    cases ea : asgT tg d ρ with
    | none => rw [ea] at h1; exact h1.elim
    | some ρ' =>
      rw [ea] at h1
      exact ⟨B, ρ, ρ', S1, d, x1.K.trans eK, x1.mg.trans em, rfl, g1, r.step (x1.step g), q1, ea, fun σ' r' _ => h1 σ' B (Ext.refl B) g1 r'⟩
/-- what the written part says of an own exception's class -/
def ExcF (K : PySem.W.Frag) (mg : Str → Option Value) (x : Str) : Prop :=
  ∃ C, mg x = some (.ref C) ∧ PySem.W.excIn K C He.veBase "ValueError.__new__" = true ∧ PySem.W.keepIn K (.ref C) = true ∧ PySem.W.subIn K (.ref C) (.type "BaseException") = some true ∧ PySem.W.typeIn K (.ref C) = some (.type "type")
theorem sS_raise {x m : Str} {j : Nat} {p2 p3 : Pos} (eK : X.K = K) (em : X.mg = mg) (hc : X.calm = true) (tk : Takes X (WS E)) (hx : ExcF K mg x) (hg : Gl X x) (hdb : (x == ("__debug__" : Str)) = false) :
    PS X (.Raise (some (.Call (.Name x p) [.Constant (.str m) j p2] [] p3)) none pos) (TSv K mg E (xRaise x)) := by
  subst eK em
  obtain ⟨C, gC, q, kC, bC, tC⟩ := hx
  refine (ps_raise hc tk (pmk_own PySem.F.excBase_ValueError q gC kC (raises_own bC tC) hg hdb)).less fun D σ H h => ?_
  obtain ⟨A, ρ, S, eK, em, rfl, g, r, h⟩ := h
  obtain ⟨C', h1, h2⟩ := h A (Ext.refl A) g
  rw [em, gC] at h1
  cases h1
  exact h2
end
end LC

set_option maxHeartbeats 1000000
/-! LC13: loops, stores, cells. -/
namespace LC
open PySem PySem.Spec PyProof.Rows L2
/-! ### for, while -/
def forGo (s : Src) (tg : LT) (body : Env → M Fl) : Nat → Nat → Env → M Fl
  | 0, _, _ => M.bad
  | n + 1, i, ρ => fun S => match srcAt s S i with
    | none => .bad
    | some none => .ok (.nx ρ) S
    | some (some d) => match asgT tg d ρ with
      | none => .bad
      | some ρ1 => (body ρ1 S).bind fun f => match f with
        | .nx ρ2 => forGo s tg body n (i + 1) ρ2
        | .rt d => M.pure (.rt d)
def xFor (es : Env → M Src) (tg : LT) (body : Env → M Fl) : Env → M Fl := fun ρ => M.bind (es ρ) fun s => fun S => forGo s tg body (srcFuel s S) 0 ρ S
def whileGo (c : Env → M D) (body : Env → M Fl) : Nat → Env → M Fl
  | 0, _ => M.bad
  | n + 1, ρ => M.bind (asBl c ρ) fun t => if t = true then M.bind (body ρ) fun f => match f with
      | .nx ρ2 => whileGo c body n ρ2
      | .rt d => M.pure (.rt d)
    else M.pure (.nx ρ)
/-- more than any loop of ours turns: by the ints at hand -/
def wFuel : Env → Nat
  | [] => 1606938044258990275541962092341162602522202993782792835301376
  | some (.int i) :: r => i.natAbs + wFuel r
  | _ :: r => wFuel r
def xWhile (c : Env → M D) (body : Env → M Fl) : Env → M Fl := fun ρ => whileGo c body (wFuel ρ) ρ
section
variable {X : Cx} {K : PySem.W.Frag} {mg : Str → Option Value} {E : XK} {pos p : Pos} {e tgE iter c : Expr} {ee ec : Env → M D} {es : Env → M Src} {tg : LT} {body : List Stmt} {xb : Env → M Fl}
theorem sS_for (hp : PassesOwn (model X.prog X.w) X.A X.env X.xe) (hc : X.calm = true) (hi : PI X tgE iter (TIv K mg (WS E) es)) (hg : PG X tgE (TGv K mg tg)) (hb : PSs X body (TSv K mg E xb)) (hs : ∀ x, foldedSetIterable iter X.env x = pure x) :
    PS X (.For tgE iter body [] pos) (TSv K mg E (xFor es tg xb)) :=
  (ps_for hp hc hi hg hb hs).less fun D σ H h => by
    obtain ⟨A, ρ, S, eK, em, eH, g, r, h⟩ := h
    refine ⟨A, ρ, S, eK, em, eH, g, r, PostS.bind h fun s S1 J B _ x1 g1 q1 h1 => ?_⟩
    have eKB : B.K = K := x1.K.trans eK
    have emB : B.mg = mg := x1.mg.trans em
    refine ⟨fun i m σ' H' => ∃ (C : At) (ρ' : Env) (S' : Store), C.H = H' ∧ Ext B C ∧ Gd C S' ∧ EnvR C ρ' σ' ∧ PostS C (forGo s tg xb m i ρ' S') D E, ⟨srcFuel s S1, B, ρ, S1, rfl, Ext.refl B, g1, r.step (x1.step g), h1⟩, ?_⟩
    rintro i m σ' H' ⟨C, ρ', S', rfl, xc, gc, rc, hc2⟩
    cases m with
    | zero => exact hc2.elim
    | succ m =>
      have e2 : forGo s tg xb (m + 1) i ρ' S' = (match srcAt s S' i with
        | none => .bad
        | some none => .ok (.nx ρ') S'
        | some (some d) => match asgT tg d ρ' with
          | none => .bad
          | some ρ1 => (xb ρ1 S').bind fun f => match f with
            | .nx ρ2 => forGo s tg xb m (i + 1) ρ2
            | .rt d => M.pure (.rt d)) := rfl
      rw [e2] at hc2
      cases e : srcAt s S' i with
      | none => rw [e] at hc2; exact hc2.elim
      | some r' =>
        have hw := q1 C S' (xc.step g1) gc i r' e
        rw [e] at hc2
        cases r' with
        | none => exact .inl ⟨hw, hc2 σ' C (Ext.refl C) gc rc⟩
        | some d =>
          obtain ⟨_, hgo, hy⟩ := hw
          refine .inr ⟨hgo, _, fun σ H z => z, fun x H' y => ?_⟩
          obtain ⟨G, rfl, x2, g2, r2⟩ := hy x H' y
          have hc2 := PostS.ext x2 hc2
          simp only at hc2
          cases ea : asgT tg d ρ' with
          | none => rw [ea] at hc2; exact hc2.elim
          | some ρ1 =>
            rw [ea] at hc2
            refine ⟨G, ρ', ρ1, S', d, x2.K.trans (xc.K.trans eKB), x2.mg.trans (xc.mg.trans emB), rfl, g2, rc.step (x2.step gc), r2, ea, fun σ2 rσ _ => ?_⟩
            refine ⟨G, ρ1, S', x2.K.trans (xc.K.trans eKB), x2.mg.trans (xc.mg.trans emB), rfl, g2, rσ, ?_⟩
            have hc2 : PostS G ((xb ρ1 S').bind fun f => match f with
              | .nx ρ2 => forGo s tg xb m (i + 1) ρ2
              | .rt d => M.pure (.rt d)) D E := hc2
            cases q : xb ρ1 S' with
            | ok f S2 =>
              rw [q] at hc2
              cases f with
              | nx ρ2 => exact fun σ3 C3 x3 g3 r3 => ⟨m, Nat.lt_succ_self m, C3, ρ2, S2, rfl, (xc.trans x2).trans x3, g3, r3, PostS.ext x3 hc2⟩
              | rt d => exact hc2
            | exc x S2 => rw [q] at hc2; exact hc2
            | bad => rw [q] at hc2; exact hc2
theorem sS_while (hp : PassesOwn (model X.prog X.w) X.A X.env X.xe) (hc : PT X c (TTv K mg (WS E) (asBl ec))) (hb : PSs X body (TSv K mg E xb)) : PS X (.While c body [] pos) (TSv K mg E (xWhile ec xb)) :=
  (ps_while hp hc hb).less fun D σ H h => by
    obtain ⟨A, ρ, S, eK, em, rfl, g, r, h⟩ := h
    refine ⟨fun m σ' H' => ∃ (C : At) (ρ' : Env) (S' : Store), C.H = H' ∧ Ext A C ∧ Gd C S' ∧ EnvR C ρ' σ' ∧ PostS C (whileGo ec xb m ρ' S') D E, ⟨wFuel ρ, A, ρ, S, rfl, Ext.refl A, g, r, h⟩, ?_⟩
    rintro m σ' H' ⟨C, ρ', S', rfl, xc, gc, rc, hc2⟩
    cases m with
    | zero => exact hc2.elim
    | succ m =>
      refine ⟨C, ρ', S', xc.K.trans eK, xc.mg.trans em, rfl, gc, rc, PostS.bind (S := S') (m := asBl ec ρ') hc2 fun t S1 v B _ x1 g1 q1 h1 => ?_⟩
      subst q1
      cases v with
      | true =>
        rw [if_pos rfl]
        rw [if_pos rfl] at h1
        refine ⟨_, fun σ H z => z, B, ρ', S1, x1.K.trans (xc.K.trans eK), x1.mg.trans (xc.mg.trans em), rfl, g1, rc.step (x1.step gc), ?_⟩
        have h1 : PostS B ((xb ρ' S1).bind fun f => match f with
          | .nx ρ2 => whileGo ec xb m ρ2
          | .rt d => M.pure (.rt d)) D E := h1
        cases q : xb ρ' S1 with
        | ok f S2 =>
          rw [q] at h1
          cases f with
          | nx ρ2 => exact fun σ3 C3 x3 g3 r3 => ⟨m, Nat.lt_succ_self m, C3, ρ2, S2, rfl, (xc.trans x1).trans x3, g3, r3, PostS.ext x3 h1⟩
          | rt d => exact h1
        | exc x S2 => rw [q] at h1; exact h1
        | bad => rw [q] at h1; exact h1
      | false =>
        rw [if_neg Bool.false_ne_true]
        rw [if_neg Bool.false_ne_true] at h1
        exact h1 σ' B (Ext.refl B) g1 (rc.step (x1.step gc))
end

/-! ### cells -/
theorem snoc_get {α : Type} {l : List α} {a b : α} {k : Nat} (h : (l ++ [a])[k]? = some b) : l[k]? = some b ∨ (k = l.length ∧ b = a) := by
  rw [List.getElem?_append] at h
  split at h
  · exact .inl h
  · rename_i hk
    rw [List.getElem?_singleton] at h
    split at h
    · rename_i h0
      exact .inr ⟨by omega, (Option.some.inj h).symm⟩
    · cases h
theorem nd_snoc {l : List Addr} {p : Addr} (nd : ∀ (i j : Nat) (q : Addr), l[i]? = some q → l[j]? = some q → i = j) (hp : p ∉ l) (i j : Nat) (q : Addr) (h1 : (l ++ [p])[i]? = some q) (h2 : (l ++ [p])[j]? = some q) : i = j := by
  rcases snoc_get h1 with k1 | ⟨k1, e1⟩
  · rcases snoc_get h2 with k2 | ⟨k2, e2⟩
    · exact nd i j q k1 k2
    · exact absurd (by rw [← e2]; exact List.mem_iff_getElem?.mpr ⟨i, k1⟩) hp
  · rcases snoc_get h2 with k2 | ⟨k2, e2⟩
    · exact absurd (by rw [← e1]; exact List.mem_iff_getElem?.mpr ⟨j, k2⟩) hp
    · omega
/-- a new cell at p -/
def At.cell (A : At) (p : Addr) (o : HO) : At := { A with m := A.m ++ [p], H := upd A.H p o }
section
variable {A : At} {S : Store} {p : Addr}
theorem Ext.cell (o : HO) (n : A.H p = none) : Ext A (A.cell p o) where
  K := rfl
  mg := rfl
  E := rfl
  pre := fun i q h => by
    show (A.m ++ [p])[i]? = some q
    rw [List.getElem?_append_left (List.getElem?_eq_some_iff.mp h).1]
    exact h
  fresh := fun q h => by
    rcases List.mem_append.mp h with h | h
    · exact .inl h
    · exact .inr (by rw [List.mem_singleton.mp h]; exact n)
  keep := fun q u _ e => (upd_ne (ne_of_none e n)).trans e
theorem Gd.cell' {c : Cell} {o : HO} (g : Gd A S) (n : A.H p = none) (hc : CellR (A.cell p o) c (some o)) : Gd (A.cell p o) (S ++ [c]) where
  len := by
    show (A.m ++ [p]).length = _
    rw [List.length_append, List.length_append, g.len]
    rfl
  nd := fun i j q h1 h2 => nd_snoc g.nd (g.out n) i j q h1 h2
  ok := fun k c' q h1 h2 => by
    have x := Ext.cell o n
    have hl := g.len
    rcases snoc_get h1 with k1 | ⟨k1, rfl⟩
    · rcases snoc_get (show (A.m ++ [p])[k]? = some q from h2) with k2 | ⟨k2, rfl⟩
      · have hq : q ≠ p := fun z => g.out n (by rw [← z]; exact List.mem_iff_getElem?.mpr ⟨k, k2⟩)
        show CellR _ _ (upd A.H p o q)
        rw [upd_ne hq]
        exact (g.ok k c' q k1 k2).step (x.step g)
      · have := (List.getElem?_eq_some_iff.mp k1).1
        omega
    · rcases snoc_get (show (A.m ++ [p])[k]? = some q from h2) with k2 | ⟨k2, rfl⟩
      · have := (List.getElem?_eq_some_iff.mp k2).1
        omega
      · show CellR _ _ (upd A.H q o q)
        rw [upd_same]
        exact hc
  noE := fun q h => by
    rcases List.mem_append.mp h with h | h
    · exact g.noE q h
    · rw [List.mem_singleton.mp h]
      exact g.outE n
  Es := fun q h => by
    show upd A.H p o q ≠ none
    by_cases hq : q = p
    · subst hq
      rw [upd_same]
      exact fun z => by cases z
    · rw [upd_ne hq]
      exact g.Es q h
/-- a cell changed -/
theorem Ext.write (o : HO) (h : p ∈ A.m) : Ext A (A.put p o) :=
  ⟨rfl, rfl, rfl, fun _ _ h => h, fun _ h => .inl h, fun q u hq e => (upd_ne fun z => hq (by rw [z]; exact h)).trans e⟩
theorem Gd.write {n : Nat} {c : Cell} {o : HO} (g : Gd A S) (hm : A.m[n]? = some p) (hc : CellR (A.put p o) c (some o)) : Gd (A.put p o) (S.set n c) where
  len := by rw [List.length_set]; exact g.len
  nd := g.nd
  ok := fun k c' q h1 h2 => by
    have hp : p ∈ A.m := List.mem_iff_getElem?.mpr ⟨n, hm⟩
    show CellR _ _ (upd A.H p o q)
    by_cases hk : n = k
    · subst hk
      have hl := g.len
      have hn : n < S.length := by
        have := (List.getElem?_eq_some_iff.mp hm).1
        omega
      rw [List.getElem?_set_self hn] at h1
      cases h1
      have e : q = p := Option.some.inj (h2.symm.trans hm)
      rw [e, upd_same]
      exact hc
    · rw [List.getElem?_set_ne hk] at h1
      have hq : q ≠ p := fun z => hk (g.nd n k p hm (by rw [← z]; exact h2))
      rw [upd_ne hq]
      exact (g.ok k c' q h1 h2).step ((Ext.write o hp).step g)
  noE := g.noE
  Es := fun q h => by
    show upd A.H p o q ≠ none
    by_cases hq : q = p
    · subst hq
      rw [upd_same]
      exact fun z => by cases z
    · rw [upd_ne hq]
      exact g.Es q h
end
end LC

set_option maxHeartbeats 1000000
/-! LC14: lists that are changed; stores of pairs; comprehensions given to a name. -/
namespace LC
open PySem PySem.Spec PyProof.Rows L2
def mkCell (ds : List D) : M D := fun S => .ok (.cell S.length) (S ++ [.lst ds])
theorem new_cell {A : At} {S : Store} {p : Addr} {ds : List D} {vs : List V} {Q : VK} {W : XK} (g : Gd A S) (r : RelL A ds vs) (hl : ds.length ≤ sizeLine) (h : Post Rel A (mkCell ds S) Q W) (n : A.H p = none) : Q (.ref p) (upd A.H p (.lst vs)) := by
  have x := Ext.cell (A := A) (p := p) (.lst vs) n
  refine h (.ref p) (A.cell p (.lst vs)) x (g.cell' n ⟨vs, rfl, hl, RelL.step (x.step g) ds vs r⟩) ⟨p, ?_, rfl⟩
  show (A.m ++ [p])[S.length]? = some p
  rw [← g.len, List.getElem?_append_right (Nat.le_refl _), Nat.sub_self]
  rfl
section
variable {X : Cx} {K : PySem.W.Frag} {mg : Str → Option Value} {W : WX} {pos p p2 : Pos} {a b e : Expr} {es rest : List Expr} {ea eb : Env → M D} {el : Env → M (List D)}
theorem sE_lstC {n : Nat} (hl : LenIs el n) (hn : n ≤ 1000) (h : PA X es (TAv K mg W el)) : PE X (.List es pos) (TEv K mg W fun ρ => M.bind (el ρ) mkCell) :=
  (pe_lst h).less fun σ H Q h => by
    obtain ⟨A, ρ, S, eK, em, eH, g, r1, h⟩ := h
    refine ⟨A, ρ, S, eK, em, eH, g, r1, Rdg.bind h fun xs S1 vs B eq x1 g1 q1 h1 => ?_⟩
    have e1 := hl _ _ _ _ eq
    have hz : xs.length ≤ sizeLine := by rw [e1, sizeLine_eq]; omega
    exact ⟨by rw [q1.len]; exact hz, fun p n => new_cell g1 q1 hz h1 n⟩
/-- a + b of two lists, as a new cell -/
def addC (ea eb : Env → M D) : Env → M D := fun ρ => M.bind (ea ρ) fun x => M.bind (eb ρ) fun y => fun S => match vw S x, vw S y with
  | .lst xs, .lst ys => if xs.length + ys.length ≤ line then mkCell (xs ++ ys) S else .bad
  | _, _ => .bad
theorem sE_addC (eK : X.K = K) (ha : PE X a (TEv K mg W ea)) (hb : PE X b (TEv K mg W eb)) : PE X (.BinOp a .Add b pos) (TEv K mg W (addC ea eb)) := by
  subst eK
  refine (pe_op op_catS ha hb).less fun σ H Q h => ?_
  obtain ⟨A, ρ, S, eK, em, eH, g, r1, h⟩ := h
  refine ⟨A, ρ, S, eK, em, eH, g, r1, Rdg.bind h fun x S1 v B _ x1 g1 q1 h1 => ?_⟩
  refine ⟨B, ρ, S1, x1.K.trans eK, x1.mg.trans em, rfl, g1, r1.step (x1.step g), Rdg.bind h1 fun y S2 w C _ x2 g2 q2 h2 => ?_⟩
  have eKC : C.K = X.K := x2.K.trans (x1.K.trans eK)
  have h2 : Post Rel C (match vw S2 x, vw S2 y with
    | .lst xs, .lst ys => if xs.length + ys.length ≤ line then mkCell (xs ++ ys) S2 else .bad
    | _, _ => .bad) Q (fun c d H' => W c d σ H') := h2
  have rx := vw_rel g2 (Rel.step (x2.step g1) _ _ q1)
  have ry := vw_rel g2 q2
  cases ex : vw S2 x with
  | lst xs =>
    cases ey : vw S2 y with
    | lst ys =>
      rw [ex, ey] at h2
      rw [ex] at rx
      rw [ey] at ry
      obtain ⟨p, vs, rfl, k1, k2, k3⟩ := rx
      obtain ⟨q, ws, rfl, l1, l2, l3⟩ := ry
      simp only at h2
      split at h2
      · rename_i hz
        rw [line_eq] at hz
        rw [eKC] at k1 l1
        exact ⟨p, q, vs, ws, rfl, rfl, k1, l1, by rw [k3.len, l3.len]; exact hz, fun r n => new_cell g2 (k3.append l3) (by rw [List.length_append]; exact hz) h2 n⟩
      · exact h2.elim
    | _ => rw [ex, ey] at h2; exact h2.elim
  | _ => rw [ex] at h2; exact h2.elim
/-- list(e), as a new cell -/
def listC (el : Env → M (List D)) : Env → M D := fun ρ => M.bind (el ρ) fun ds => fun S => match ds with
  | [x] => match vw S x with
    | .tup xs => mkCell xs S
    | .lst xs => mkCell xs S
    | _ => .bad
  | _ => .bad
theorem sE_listC {x : Str} (eK : X.K = K) (hg : Gl X x) (hm : X.mg x = none) (hv : bootBuiltins x = some (.type "list")) (hn : x ≠ "__name__") (hdb : (x == ("__debug__" : Str)) = false) (hst : ∀ z ∈ e :: es, isStar z = false) (ha : PA X (e :: es) (TAv K mg W el)) :
    PE X (.Call (.Name x p) (e :: es) [] pos) (TEv K mg W (listC el)) := by
  subst eK
  refine (pe_callTy call_list_of hg hm hv ha hn hdb (star_of (hst e List.mem_cons_self)) (star_any fun z hz => hst z (List.mem_cons_of_mem _ hz))).less fun σ H Q h => ?_
  obtain ⟨A, ρ, S, eK, em, eH, g, r1, h⟩ := h
  refine ⟨A, ρ, S, eK, em, eH, g, r1, Rdg.bind h fun ds S1 vs B eq x1 g1 q1 h1 => ?_⟩
  have eKB : B.K = X.K := x1.K.trans eK
  match ds, q1, h1 with
  | [], _, h1 => exact h1.elim
  | _ :: _ :: _, _, h1 => exact h1.elim
  | [x], q1, h1 =>
    obtain ⟨v, rfl, rv⟩ := q1.one'
    have r2 := vw_rel g1 rv
    have h1 : Post Rel B (match vw S1 x with
      | .tup xs => mkCell xs S1
      | .lst xs => mkCell xs S1
      | _ => .bad) Q (fun c d H' => W c d σ H') := h1
    cases q : vw S1 x with
    | tup xs =>
      rw [q] at h1 r2
      obtain ⟨p, ws, rfl, k1, k2, k3⟩ := r2
      exact ⟨p, ws, rfl, .inr (SqT.of k1), fun l n => new_cell g1 k3 k2 h1 n⟩
    | lst xs =>
      rw [q] at h1 r2
      obtain ⟨p, ws, rfl, k1, k2, k3⟩ := r2
      rw [eKB] at k1
      exact ⟨p, ws, rfl, .inl k1, fun l n => new_cell g1 k3 k2 h1 n⟩
    | _ => rw [q] at h1; exact h1.elim

/-! ### o[i] = e, over a list that stands in a cell -/
def storeAt (o i d : D) : M Unit := fun S => match o, i with
  | .cell n, .int k => match S[n]? with
    | some (.lst ys) => match ixN ys.length k with
      | some j => .ok () (S.set n (.lst (ys.set j d)))
      | none => .bad
    | _ => .bad
  | _, _ => .bad
def xStI (eo ei ee : Env → M D) : Env → M Fl := fun ρ => M.bind (ee ρ) fun d => M.bind (eo ρ) fun o => M.bind (ei ρ) fun i => M.bind (storeAt o i d) fun _ => M.pure (.nx ρ)
theorem RelL.set {A : At} {d : D} {v : V} (r : Rel A d v) : ∀ {ds : List D} {vs : List V} (j : Nat), RelL A ds vs → RelL A (ds.set j d) (vs.set j v)
  | [], _, _, h => by
    rw [show _ = [] from h]
    exact .nil
  | _ :: _, _, 0, h => by
    obtain ⟨w, q, rfl, h1, h2⟩ := h
    exact .cons r h2
  | _ :: _, _, j + 1, h => by
    obtain ⟨w, q, rfl, h1, h2⟩ := h
    exact .cons h1 (RelL.set r j h2)
theorem sS_stI {E : XK} {o i : Expr} {eo ei ee : Env → M D} (he : PE X e (TEv K mg (WS E) ee)) (ho : PE X o (TEv K mg (WS E) eo)) (hi : PE X i (TEv K mg (WS E) ei)) (hns : notSl i = true) (hs : swapsWithSole [.Subscript o i p] e pos.line X.env = pure false) (hw : swappedStores [.Subscript o i p] e X.env = pure none) :
    PS X (.Assign [.Subscript o i p] e pos) (TSv K mg E (xStI eo ei ee)) := by
  have hsub : ∀ v, assign (.Subscript o i p) X.env v = (do
      let ov ← holding [v] (eval o X.env)
      let iv ← holding [v, ov] (eval i X.env)
      standAt p
      holding [v, ov, iv] (setItem ov iv v)
      release [v, ov, iv] []) := fun v => by cases i <;> first | rfl | cases hns
  refine (ps_asg he (pg_sub ho hi set_list hsub) hs hw rfl).less fun D σ H h => ?_
  obtain ⟨A, ρ, S, eK, em, eH, g, r1, h⟩ := h
  refine ⟨A, ρ, S, eK, em, eH, g, r1, PostS.bind h fun d S1 v B _ x1 g1 q1 h1 => ?_⟩
  refine ⟨B, ρ, S1, x1.K.trans eK, x1.mg.trans em, rfl, g1, r1.step (x1.step g), PostS.bind h1 fun od S2 w C _ x2 g2 q2 h2 => ?_⟩
  refine ⟨C, ρ, S2, x2.K.trans (x1.K.trans eK), x2.mg.trans (x1.mg.trans em), rfl, g2, (r1.step (x1.step g)).step (x2.step g1), PostS.bind h2 fun id S3 u G _ x3 g3 q3 h3 => ?_⟩
  have rd := Rel.step ((x2.trans x3).step g1) _ _ q1
  have ro := Rel.step (x3.step g2) _ _ q2
  have rs := r1.step (((x1.trans x2).trans x3).step g)
  cases od with
  | cell n =>
    cases id with
    | int k =>
      obtain ⟨q, hq, rfl⟩ := ro
      have h3 : PostS G (((match S3[n]? with
        | some (.lst ys) => match ixN ys.length k with
          | some j => .ok () (S3.set n (.lst (ys.set j d)))
          | none => .bad
        | _ => .bad) : R Unit).bind fun _ => M.pure (.nx ρ)) D E := h3
      cases ec : S3[n]? with
      | none => rw [ec] at h3; exact h3.elim
      | some c =>
        rw [ec] at h3
        cases c with
        | lst ys =>
          simp only at h3
          obtain ⟨vs, e1, z, rl⟩ := g3.ok n _ q ec hq
          cases ej : ixN ys.length k with
          | none => rw [ej] at h3; exact h3.elim
          | some j =>
            rw [ej] at h3
            refine ⟨q, vs, k, j, rfl, q3, e1, by rw [rl.len]; exact ej, ?_⟩
            have hm : q ∈ G.m := List.mem_iff_getElem?.mpr ⟨n, hq⟩
            have xw := Ext.write (A := G) (.lst (vs.set j v)) hm
            exact h3 σ (G.put q (.lst (vs.set j v))) xw (g3.write hq ⟨_, rfl, by rw [List.length_set]; exact z, RelL.step (xw.step g3) _ _ (RelL.set rd j rl)⟩) (rs.step (xw.step g3))
        | _ => exact h3.elim
    | _ => exact h3.elim
  | _ => exact h3.elim
/-! ### a, b = x, y -/
theorem sS_par {E : XK} {i j : Nat} {x y : Str} {px py pt pt2 : Pos} {kt k2 : Nat} (hc : X.calm = true) (hN : X.N.Nodup) (hi : X.N[i]? = some x) (hj : X.N[j]? = some y) (hij : i ≠ j) (hx : X.env.scope.names.lookup x = some .local) (hy : X.env.scope.names.lookup y = some .local)
    (ha : PA X [a, b] (TAv K mg (WS E) el)) (hw : swappedStores [.Tuple [.Name x px, .Name y py] kt pt] (.Tuple [a, b] k2 pt2) X.env = pure (some [x, y])) : PS X (.Assign [.Tuple [.Name x px, .Name y py] kt pt] (.Tuple [a, b] k2 pt2) pos) (TSv K mg E (xAsg (.tp [i, j]) (disp .tup el))) :=
  (ps_par hc hN hi hj hij hx hy ha hw).less fun D σ H h => by
    obtain ⟨A, ρ, S, eK, em, eH, g, r1, h⟩ := h
    have h : PostS A (((el ρ S).bind fun ds => M.pure (LC.D.tup ds)).bind fun d => match asgT (.tp [i, j]) d ρ with
      | some ρ' => M.pure (.nx ρ')
      | none => M.bad) D E := h
    refine ⟨A, ρ, S, eK, em, eH, g, r1, ?_⟩
    cases q : el ρ S with
    | ok ds S1 =>
      rw [q] at h
      intro vs B x1 g1 q1
      have h := PostS.ext x1 h
      match ds, q1, h with
      | [], _, h => exact h.elim
      | [_], _, h => exact h.elim
      | _ :: _ :: _ :: _, _, h => exact h.elim
      | [d, d'], q1, h =>
        obtain ⟨v, w, rfl, r2, r3⟩ := q1.two'
        exact ⟨v, w, rfl, h _ B (Ext.refl B) g1 (((r1.step (x1.step g)).set r2).set r3)⟩
    | exc x S1 => rw [q] at h; exact h
    | bad => rw [q] at h; exact h
/-- the pair's own names are not plain: the pair is made, and unpacked -/
theorem sS_asgT {E : XK} {ts : List Expr} {is : List Nat} {k : Nat} {fn : Str → Bool} {ee : Env → M D} (eK : X.K = K) (hc : X.calm = true) (hN : X.N.Nodup) (hf : ∀ x, fn x = true → X.fn x = true) (h : namesOk X.N X.env.scope fn ts is = true) (he : PE X e (TEv K mg (WS E) ee))
    (hw : swappedStores [.Tuple ts k p] e X.env = pure none) (hs : swapsWithSole [.Tuple ts k p] e pos.line X.env = pure false) : PS X (.Assign [.Tuple ts k p] e pos) (TSv K mg E (xAsg (.tp is) ee)) :=
  sS_asg he (sG_tp hc hN hf h eK) hs hw rfl
end
/-! ### name = [..] -/
section
variable {X : Cx} {K : PySem.W.Frag} {mg : Str → Option Value} {E : XK} {pos spos py : Pos} {elt tgE iter : Expr} {ifs : List Expr} {scope : Scope} {own : List (Str × Nat)} {es : Env → M Src} {tg : LT} {ec : Option (Env → M D)} {ee : Env → M D} {i : Nat} {y : Str}
  {tg1E iter1 : Expr} {ifs1 : List Expr} {es1 : Env → M Src} {tg1 : LT} {ec1 : Option (Env → M D)}
theorem rd_set {te : TE} {ev : Env → M D} (h : ∀ σ H Q, TEv K mg (WS E) ev σ H Q → te σ H Q) (D : Ends) (σ : L2.St) (H : Hp) (q : TSv K mg E (xSet i ev) D σ H) : tAsg te (gName i) D σ H := by
  obtain ⟨A, ρ, S, eK, em, eH, g, r, q⟩ := q
  refine h σ H _ ⟨A, ρ, S, eK, em, eH, g, r, PostS.bind q fun d S1 v B _ x1 g1 q1 h1 => ?_⟩
  exact h1 _ B (Ext.refl B) g1 ((r.step (x1.step g)).set q1)
theorem sS_setLc {vs : List Nat} (hvs : vs = own.map (·.2)) (hsl : ∀ i ∈ tg.slots, i ∈ vs) (hc : X.calm = true) (hN : X.N.Nodup) (hy : X.N[i]? = some y) (hyl : X.env.scope.names.lookup y = some .local)
    (hsw : swapsWith (.ListComp elt [⟨tgE, iter, ifs, 0⟩] scope pos) (some (.Name y py)) spos.line X.env = pure true) (hi : PI X tgE iter (TIv K mg (WS E) es)) (ok : BlkOk X.N X.env.scope scope own)
    (hg : ∀ (s : Shared) (H : Hp) (C : Addr) (cl : List (Str × Addr)) (fp : List Addr), PG (X.blk s H scope (compEnvC scope cl C X.env) fp) tgE (TGv K mg tg))
    (ht : ∀ (s : Shared) (H : Hp) (C : Addr) (cl : List (Str × Addr)) (fp : List Addr), PTs (X.blk s H scope (compEnvC scope cl C X.env) fp) ifs (TTo K mg ec))
    (he : ∀ (s : Shared) (H : Hp) (C : Addr) (cl : List (Str × Addr)) (fp : List Addr), PE (X.blk s H scope (compEnvC scope cl C X.env) fp) elt (TEv K mg W0 ee)) (hs : ∀ x, foldedSetIterable iter X.env x = pure x) :
    PS X (.Assign [.Name y py] (.ListComp elt [⟨tgE, iter, ifs, 0⟩] scope pos) spos) (TSv K mg E (xSet i (lcM vs es tg ec ee))) := by
  subst hvs
  exact (ps_setLc hc hN hy hyl hsw hi ok hg ht he hs).less fun D σ H h => rd_set (fun σ H Q q => rd_lc hsl q) D σ H h
theorem sS_setLc2 {vs vs1 : List Nat} (hvs : vs = own.map (·.2)) (hv : ∀ i ∈ vs1, i ∈ own.map (·.2)) (hsl : ∀ i ∈ tg.slots, i ∈ vs) (hsl1 : ∀ i ∈ tg1.slots, i ∈ vs1) (hc : X.calm = true) (hN : X.N.Nodup) (hy : X.N[i]? = some y) (hyl : X.env.scope.names.lookup y = some .local)
    (hsw : swapsWith (.ListComp elt [⟨tgE, iter, ifs, 0⟩, ⟨tg1E, iter1, ifs1, 0⟩] scope pos) (some (.Name y py)) spos.line X.env = pure true) (hi : PI X tgE iter (TIv K mg (WS E) es)) (ok : BlkOk X.N X.env.scope scope own)
    (hg : ∀ (s : Shared) (H : Hp) (C : Addr) (cl : List (Str × Addr)) (fp : List Addr), PG (X.blk s H scope (compEnvC scope cl C X.env) fp) tgE (TGv K mg tg))
    (ht : ∀ (s : Shared) (H : Hp) (C : Addr) (cl : List (Str × Addr)) (fp : List Addr), PTs (X.blk s H scope (compEnvC scope cl C X.env) fp) ifs (TTo K mg ec))
    (hi1 : ∀ (s : Shared) (H : Hp) (C : Addr) (cl : List (Str × Addr)) (fp : List Addr), PI (X.blk s H scope (compEnvC scope cl C X.env) fp) tg1E iter1 (TIv K mg W0 es1))
    (hg1 : ∀ (s : Shared) (H : Hp) (C : Addr) (cl : List (Str × Addr)) (fp : List Addr), PG (X.blk s H scope (compEnvC scope cl C X.env) fp) tg1E (TGv K mg tg1))
    (ht1 : ∀ (s : Shared) (H : Hp) (C : Addr) (cl : List (Str × Addr)) (fp : List Addr), PTs (X.blk s H scope (compEnvC scope cl C X.env) fp) ifs1 (TTo K mg ec1))
    (he : ∀ (s : Shared) (H : Hp) (C : Addr) (cl : List (Str × Addr)) (fp : List Addr), PE (X.blk s H scope (compEnvC scope cl C X.env) fp) elt (TEv K mg W0 ee)) (hs : ∀ x, foldedSetIterable iter X.env x = pure x) (hs1 : ∀ env x, foldedSetIterable iter1 env x = pure x) :
    PS X (.Assign [.Name y py] (.ListComp elt [⟨tgE, iter, ifs, 0⟩, ⟨tg1E, iter1, ifs1, 0⟩] scope pos) spos) (TSv K mg E (xSet i (lc2M vs vs1 es tg ec es1 tg1 ec1 ee))) := by
  subst hvs
  exact (ps_setLc2 hc hN hy hyl hsw hi ok hv hg ht hi1 hg1 ht1 he hs hs1).less fun D σ H h => rd_set (fun σ H Q q => rd_lc2 hsl hsl1 q) D σ H h
/-- the name is a cell, or a comprehension's own: an ordinary store -/
theorem swaps_cell {gs : List Comprehension} (hk : X.env.scope.names.lookup y ≠ some .local) {l : Nat} : swapsWith (.ListComp elt gs scope pos) (some (.Name y py)) l X.env = pure false := by
  unfold swapsWith
  have e : (X.env.kindOf y == some .local) = false := beq_eq_false_iff_ne.mpr hk
  simp only [e]
  simp
end
/-! ### which pairs are stored from the right -/
theorem blockFn {env : PySem.Env} (hk : env.scope.kind = .function) : env.blockKind = .function := by
  unfold PySem.Env.blockKind
  rw [hk]
  rfl
def swNames (sc : Scope) (line : Nat) (ts : List Expr) : List Str := ts.filterMap fun
  | .Name id pos => if sc.names.lookup id == some .local && pos.line == line then some id else none
  | _ => none
def headLine (ts : List Expr) : Nat := (ts.head?.map (·.pos.line)).getD 0
theorem ite_both {α : Type} {c : Prop} [Decidable c] {a b x : α} (ha : a = x) (hb : b = x) : (if c then a else b) = x := by
  split <;> assumption
/-- the pair is made -/
def swNo (sc : Scope) (ts vs : List Expr) : Bool := !(ts.length == 2 || ts.length == 3) || vs.length != ts.length || (swNames sc (headLine ts) ts).length != ts.length || vs.all (foldedForSure 8)
theorem swapped_no {env : PySem.Env} {ts vs : List Expr} {k k2 : Nat} {p p2 : Pos} (hk : env.scope.kind = .function) (hv : vs.all (fun e => !isStar e) = true) (h : swNo env.scope ts vs = true) : swappedStores [.Tuple ts k p] (.Tuple vs k2 p2) env = pure none := by
  have hb := blockFn hk
  have hst : (vs.any fun | .Starred .. => true | _ => false) = false := by
    rw [List.any_eq_false]
    intro e he
    have := List.all_eq_true.mp hv e he
    cases e <;> simp_all [isStar]
  have hkk : ∀ id, env.kindOf id = env.scope.names.lookup id := fun _ => rfl
  unfold swappedStores
  dsimp only
  rw [hb]
  by_cases h1 : (!(ts.length == 2 || ts.length == 3) || vs.length != ts.length) = true
  · rw [if_pos (by rw [h1]; rfl)]
  · have h1' : (!(ts.length == 2 || ts.length == 3) || vs.length != ts.length) = false := Bool.eq_false_iff.mpr h1
    have h' : ((!(ts.length == 2 || ts.length == 3) || vs.length != ts.length) || (swNames env.scope (headLine ts) ts).length != ts.length || vs.all (foldedForSure 8)) = true := h
    rw [h1', Bool.false_or] at h'
    rw [if_neg (by rw [h1']; decide)]
    refine (if_neg (Bool.eq_false_iff.mp hst)).trans ?_
    rcases Bool.or_eq_true_iff.mp h' with h2 | h2
    · exact if_pos (Bool.or_eq_true_iff.mpr (.inl h2))
    · exact ite_both rfl (if_pos h2)
/-- they are stored from the right -/
def swYes (sc : Scope) (ts vs : List Expr) : Bool := (ts.length == 2 || ts.length == 3) && (vs.length == ts.length && ((swNames sc (headLine ts) ts).length == ts.length && ((swNames sc (headLine ts) ts).eraseDups.length == (swNames sc (headLine ts) ts).length && (!vs.all (foldedForSure 8) && !vs.all (constantsAlone 8)))))
theorem swapped_yes {env : PySem.Env} {ts vs : List Expr} {k k2 : Nat} {p p2 : Pos} (hk : env.scope.kind = .function) (hv : vs.all (fun e => !isStar e) = true) (h : swYes env.scope ts vs = true) : swappedStores [.Tuple ts k p] (.Tuple vs k2 p2) env = pure (some (swNames env.scope (headLine ts) ts)) := by
  have hb := blockFn hk
  have hst : (vs.any fun | .Starred .. => true | _ => false) = false := by
    rw [List.any_eq_false]
    intro e he
    have := List.all_eq_true.mp hv e he
    cases e <;> simp_all [isStar]
  obtain ⟨a1, h⟩ := Bool.and_eq_true_iff.mp h
  obtain ⟨a2, h⟩ := Bool.and_eq_true_iff.mp h
  obtain ⟨a3, h⟩ := Bool.and_eq_true_iff.mp h
  obtain ⟨a4, h⟩ := Bool.and_eq_true_iff.mp h
  obtain ⟨a5, a6⟩ := Bool.and_eq_true_iff.mp h
  unfold swappedStores
  dsimp only
  rw [hb]
  have b2 : (vs.length != ts.length) = false := by rw [bne, a2]; rfl
  have b3 : ((swNames env.scope (headLine ts) ts).length != ts.length) = false := by rw [bne, a3]; rfl
  have b4 : ((swNames env.scope (headLine ts) ts).eraseDups.length != (swNames env.scope (headLine ts) ts).length) = false := by rw [bne, a4]; rfl
  have b5 : vs.all (foldedForSure 8) = false := by simpa using a5
  have b6 : vs.all (constantsAlone 8) = false := by simpa using a6
  rw [if_neg (by rw [a1, b2]; decide)]
  refine (if_neg (Bool.eq_false_iff.mp hst)).trans ?_
  refine (if_neg ?_).trans ?_
  · intro z
    rcases Bool.or_eq_true_iff.mp z with z | z
    · have z' : ((swNames env.scope (headLine ts) ts).length != ts.length) = true := z
      rw [b3] at z'
      cases z'
    · have z' : ((swNames env.scope (headLine ts) ts).eraseDups.length != (swNames env.scope (headLine ts) ts).length) = true := z
      rw [b4] at z'
      cases z'
  · rw [if_neg (by rw [b5]; decide), if_neg (by rw [b6]; decide)]
    rfl
end LC

set_option maxHeartbeats 2000000
/-! LC15: the language, its evaluator, the check against the text, and that the check is enough. -/
namespace LC
open PySem PySem.Spec PyProof.Rows L2
inductive BT where
  | int | bool | tuple | str | list | dict
  deriving DecidableEq
def BT.nm : BT → String
  | .int => "int" | .bool => "bool" | .tuple => "tuple" | .str => "str" | .list => "list" | .dict => "dict"
theorem bt_boot (b : BT) : bootBuiltins (b.nm : Str) = some (.type b.nm) ∧ (b.nm : Str) ≠ "__name__" ∧ ((b.nm : Str) == ("__debug__" : Str)) = false := by
  cases b <;> decide +kernel
theorem bf_boot (b : BF) : bootBuiltins (b.id : Str) = some b.val ∧ (b.id : Str) ≠ "__name__" ∧ ((b.id : Str) == ("__debug__" : Str)) = false := by
  cases b <;> decide +kernel
theorem bf_val (b : BF) : (∃ id, b.val = .builtin id) ∨ ∃ T, b.val = .type T := by
  cases b <;> first | exact .inl ⟨_, rfl⟩ | exact .inr ⟨_, rfl⟩
mutual
inductive LE where
  | var (i : Nat)
  | cst (d : D)
  | gfn (x : Str)
  | ty (b : BT)
  | bin (op : Operator) (a b : LE)
  | neg (a : LE)
  | nt (a : LE)
  | cmp (op : CmpOp) (a b : LE)
  | chn (op op2 : CmpOp) (a b c : LE)
  | bop (isAnd : Bool) (es : LAs)
  | ite (c a b : LE)
  | tup (es : LAs)
  | lst (es : LAs)
  | lstC (es : LAs)
  | addC (a b : LE)
  | listC (es : LAs)
  | idx (a i : LE)
  | slc (a : LE) (lo hi : LO)
  | call (f : Str) (es : LAs)
  | blt (b : BF) (es : LAs)
  | isi (es : LAs)
  | lc (vs : List Nat) (s : LI) (tg : LT) (c : LO) (e : LE)
  | lc2 (vs vs1 : List Nat) (s : LI) (tg : LT) (c : LO) (s1 : LI) (tg1 : LT) (c1 : LO) (e : LE)
inductive LAs where
  | nil
  | cons (e : LE) (es : LAs)
inductive LO where
  | none
  | some (e : LE)
inductive LI where
  | of (e : LE)
  | rng (es : LAs)
end
mutual
inductive LS where
  | set (i : Nat) (e : LE)
  | setLc (i : Nat) (e : LE)
  | asg (tg : LT) (e : LE)
  | par (i j : Nat) (es : LAs)
  | stI (o i e : LE)
  | ex (e : LE)
  | ret (e : LE)
  | ifs (c : LE) (a b : LB)
  | whl (c : LE) (b : LB)
  | for_ (s : LI) (tg : LT) (b : LB)
  | rai (x : Str)
  | pass
inductive LB where
  | nil
  | cons (s : LS) (b : LB)
end
def LAs.len : LAs → Nat
  | .nil => 0
  | .cons _ es => es.len + 1

/-! ### isinstance -/
def tyOf (S : Store) : D → Option String
  | .non => some "NoneType"
  | .bl _ => some "bool"
  | .int _ => some "int"
  | .str _ => some "str"
  | .tup _ => some "tuple"
  | .lst _ => some "list"
  | .cell n => match S[n]? with
    | some (.lst _) => some "list"
    | some (.dI _) => some "dict"
    | some (.dT _) => some "dict"
    | _ => none
  | _ => none
def fIsi : Store → List D → Option D
  | S, [x, .ty n] => (tyOf S x).bind fun t => (kitB t n).map D.bl
  | _, _ => none
theorem tyx_of {A : At} {S : Store} {x : D} {v : V} {t : String} (g : Gd A S) (r : Rel A x v) (h : tyOf S x = some t) : TyX A.K A.H v (.type t) := by
  cases x with
  | non => cases h; rw [show v = V.non from r]; exact .base .non
  | bl b => cases h; rw [show v = V.bl b from r]; exact .base (.bl b)
  | int b => cases h; rw [show v = V.int b from r]; exact .base (.int b)
  | str b => cases h; rw [show v = V.str b from r]; exact .base (.str b)
  | tup b =>
    cases h
    obtain ⟨p, vs, rfl, h1, _⟩ := r
    exact .base (.tup h1)
  | lst b =>
    cases h
    obtain ⟨p, vs, rfl, h1, _⟩ := r
    rcases h1 with ⟨_, _, h1 | ⟨o, h1⟩⟩ | ⟨o, its, n, h1, h2, _⟩
    · exact .base (.lst h1)
    · exact .base (.frz h1)
    · exact .kList h1 h2
  | cell n =>
    obtain ⟨p, h1, rfl⟩ := r
    have h' : (match S[n]? with
      | some (.lst _) => some "list"
      | some (.dI _) => some "dict"
      | some (.dT _) => some "dict"
      | _ => none) = some t := h
    cases e : S[n]? with
    | none => rw [e] at h'; cases h'
    | some c =>
      rw [e] at h'
      have k := g.ok n c p e h1
      cases c with
      | lst _ => cases h'; obtain ⟨vs, e1, _⟩ := k; exact .base (.lst e1)
      | dI _ => cases h'; obtain ⟨vs, e1, _⟩ := k; exact .base (.dK e1)
      | dT _ => cases h'; obtain ⟨vs, e1, _⟩ := k; exact .base (.dT e1)
      | ins _ _ => cases h'
  | _ => cases h
theorem snd_isi {K : PySem.W.Frag} : SndA K fIsi (rIsi K) := by
  intro A S ds d vs Q W eK g r e h
  subst eK
  have key : ∃ x n, ds = [x, .ty n] ∧ ((tyOf S x).bind fun t => (kitB t n).map D.bl) = some d := by
    rcases ds with _ | ⟨x, _ | ⟨y, _ | ⟨z, r'⟩⟩⟩
    · exact absurd (show (none : Option D) = some d from e) (by simp)
    · exact absurd (show (none : Option D) = some d from e) (by simp)
    · cases y with
      | ty n => exact ⟨x, n, rfl, e⟩
      | _ => exact absurd (show (none : Option D) = some d from e) (by simp)
    · cases y <;> exact absurd (show (none : Option D) = some d from e) (by simp)
  obtain ⟨x, n, rfl, e'⟩ := key
  obtain ⟨v, w, rfl, r1, r2⟩ := r.two'
  obtain ⟨t, et, e'⟩ := Option.bind_eq_some_iff.mp e'
  obtain ⟨b, ek, rfl⟩ := Option.map_eq_some_iff.mp e'
  exact ⟨v, w, .type t, .type n, b, rfl, by rw [show w = V.ty n from r2]; exact .ty n, tyx_of g r1 et, kit_ty ek, val_ok g h rfl⟩

/-! ### the evaluator -/
mutual
def evE (cf : Str → List D → M D) : LE → Env → M D
  | .var i => fun ρ => M.opt (getE ρ i)
  | .cst d => fun _ => M.pure d
  | .gfn x => fun _ => M.pure (.fn x)
  | .ty b => fun _ => M.pure (.ty b.nm)
  | .bin op a b => op2 (binD op) (evE cf a) (evE cf b)
  | .neg a => un1 negD (evE cf a)
  | .nt a => un1 notD (evE cf a)
  | .cmp op a b => op2 (cmpB op) (evE cf a) (evE cf b)
  | .chn op op' a b c => chnM (cmpB op) (cmpB op') (evE cf a) (evE cf b) (evE cf c)
  | .bop t es => evB cf t es
  | .ite c a b => iteM (evE cf c) (evE cf a) (evE cf b)
  | .tup es => disp .tup (evA cf es)
  | .lst es => disp .lst (evA cf es)
  | .lstC es => fun ρ => M.bind (evA cf es ρ) mkCell
  | .addC a b => addC (evE cf a) (evE cf b)
  | .listC es => listC (evA cf es)
  | .idx a i => op2 idxD (evE cf a) (evE cf i)
  | .slc a lo hi => sl2 (evE cf a) (evO cf lo) (evO cf hi)
  | .call f .nil => fun _ => M.nox (cf f [])
  | .call f (.cons e es) => fun ρ => M.bind (argsCons (evE cf e) (evA cf es) ρ) (cf f)
  | .blt b es => callA (fB b) (evA cf es)
  | .isi es => callA fIsi (evA cf es)
  | .lc vs s tg c e => lcM vs (evI cf s) tg (evO cf c) (evE cf e)
  | .lc2 vs vs1 s tg c s1 tg1 c1 e => lc2M vs vs1 (evI cf s) tg (evO cf c) (evI cf s1) tg1 (evO cf c1) (evE cf e)
def evA (cf : Str → List D → M D) : LAs → Env → M (List D)
  | .nil => argsNil
  | .cons e es => argsCons (evE cf e) (evA cf es)
def evB (cf : Str → List D → M D) (t : Bool) : LAs → Env → M D
  | .nil => fun _ => M.bad
  | .cons e .nil => evE cf e
  | .cons e (.cons e2 es) => if t = true then andM (evE cf e) (evB cf t (.cons e2 es)) else orM (evE cf e) (evB cf t (.cons e2 es))
def evO (cf : Str → List D → M D) : LO → Option (Env → M D)
  | .none => none
  | .some e => some (evE cf e)
def evI (cf : Str → List D → M D) : LI → Env → M Src
  | .of e => walkM (evE cf e)
  | .rng es => rngM (evA cf es)
end
mutual
def exS (cf : Str → List D → M D) : LS → Env → M Fl
  | .set i e => xSet i (evE cf e)
  | .setLc i e => xSet i (evE cf e)
  | .asg tg e => xAsg tg (evE cf e)
  | .par i j es => xAsg (.tp [i, j]) (disp .tup (evA cf es))
  | .stI o i e => xStI (evE cf o) (evE cf i) (evE cf e)
  | .ex e => xEx (evE cf e)
  | .ret e => xRet (evE cf e)
  | .ifs c a b => xIf (evE cf c) (exB cf a) (exB cf b)
  | .whl c b => xWhile (evE cf c) (exB cf b)
  | .for_ s tg b => xFor (evI cf s) tg (exB cf b)
  | .rai x => xRaise x
  | .pass => xPass
def exB (cf : Str → List D → M D) : LB → Env → M Fl
  | .nil => xPass
  | .cons s b => xSeq (exS cf s) (exB cf b)
end

/-! ### the check -/
structure Tb where
  ar : Str → Option Nat
  free : Str → Bool
  glo : Str → Bool
  exc : Str → Bool
structure Ct where
  N : List Str
  sc : Scope
  fn : Str → Bool
  T : Tb
def visB (sc : Scope) (x : Str) : Bool := match sc.names.lookup x with
  | some .local => true
  | some .cell => true
  | some .free => true
  | _ => false
def glB (sc : Scope) (x : Str) : Bool := sc.names.lookup x == some .globalImplicit
def plainN (x : Str) : Bool := !(x == ("__debug__" : Str)) && !(x == ("__classdict__" : Str))
def notSetE : Expr → Bool
  | .Set .. => false
  | _ => true
def ownOf (N : List Str) (vs : List Nat) : List (Str × Nat) := vs.map fun i => (N.getD i Str.empty, i)
def chkT (c : Ct) : LT → Expr → Bool
  | .nm i, e => namesOk c.N c.sc c.fn [e] [i]
  | .tp is, .Tuple es _ _ => namesOk c.N c.sc c.fn es is
  | .tp _, _ => false
def Ct.blk (c : Ct) (scope : Scope) : Ct := { c with sc := relS scope c.sc, fn := fun x => scope.names.lookup x == some .cell }
/-- what may stand as a test -/
def tokB : LE → Bool
  | .ite .. => false
  | _ => true
def tokA : LAs → Bool
  | .nil => true
  | .cons e es => tokB e && tokA es
mutual
def chkE (c : Ct) : LE → Expr → Bool
  | .var i, .Name x _ => decide (c.N[i]? = some x) && (visB c.sc x && plainN x)
  | .cst d, .Constant k _ _ => cstOk k d
  | .gfn x, .Name y _ => decide (x = y) && (glB c.sc y && (c.T.glo y && plainN y))
  | .ty b, .Name y _ => decide (y = (b.nm : Str)) && (glB c.sc y && c.T.free y)
  | .bin op a b, .BinOp l o r _ => decide (o = op) && (chkE c a l && chkE c b r)
  | .neg a, .UnaryOp .USub e _ => chkE c a e
  | .nt a, .UnaryOp .Not e _ => tokB a && chkE c a e
  | .cmp op a b, .Compare l [o] [r] _ => decide (o = op) && (notSetE r && (chkE c a l && chkE c b r))
  | .chn op op2 a b d, .Compare l [o, o2] [m, r] _ => decide (o = op) && (decide (o2 = op2) && (notSetE r && (chkE c a l && (chkE c b m && chkE c d r))))
  | .bop t es, .BoolOp o vs _ => decide (o = (if t then .And else .Or)) && (tokA es && chkA c es vs)
  | .ite t a b, .IfExp t' a' b' _ => tokB t && (chkE c t t' && (chkE c a a' && chkE c b b'))
  | .tup es, .Tuple vs _ _ => decide (es.len ≤ 1000) && chkA c es vs
  | .lst es, .List vs _ => decide (es.len ≤ 1000) && chkA c es vs
  | .lstC es, .List vs _ => decide (es.len ≤ 1000) && chkA c es vs
  | .addC a b, .BinOp l .Add r _ => chkE c a l && chkE c b r
  | .listC es, .Call (.Name x _) (v :: vs) [] _ => decide (x = ("list" : Str)) && (glB c.sc x && (c.T.free x && chkA c es (v :: vs)))
  | .idx a i, .Subscript e s _ => notSl s && (chkE c a e && chkE c i s)
  | .slc a lo hi, .Subscript e (.Slice l h none _) _ => chkE c a e && (chkO c lo l && chkO c hi h)
  | .call f es, .Call (.Name x _) vs [] _ => decide (f = x) && (glB c.sc f && (decide (c.T.ar f = some es.len) && (plainN f && chkA c es vs)))
  | .blt b es, .Call (.Name x _) (v :: vs) [] _ => decide (x = (b.id : Str)) && (glB c.sc x && (c.T.free x && chkA c es (v :: vs)))
  | .isi es, .Call (.Name x _) (v :: vs) [] _ => decide (x = ("isinstance" : Str)) && (glB c.sc x && (c.T.free x && chkA c es (v :: vs)))
  | .lc vs s tg co e, .ListComp elt [⟨t, it, ifs, 0⟩] scope _ => blkC c.N c.sc scope (ownOf c.N vs) && (tg.slots.all (fun i => vs.contains i) && (notSetE it && (chkI c s it && (chkT (c.blk scope) tg t && (chkF (c.blk scope) co ifs && chkE (c.blk scope) e elt)))))
  | .lc2 vs vs1 s tg co s1 tg1 co1 e, .ListComp elt [⟨t, it, ifs, 0⟩, ⟨t1, it1, ifs1, 0⟩] scope _ => blkC c.N c.sc scope (ownOf c.N vs) && (tg.slots.all (fun i => vs.contains i) && (notSetE it && (chkI c s it && (chkT (c.blk scope) tg t && (chkF (c.blk scope) co ifs &&
      (vs1.all (fun i => vs.contains i) && (tg1.slots.all (fun i => vs1.contains i) && (notSetE it1 && (chkI (c.blk scope) s1 it1 && (chkT (c.blk scope) tg1 t1 && (chkF (c.blk scope) co1 ifs1 && chkE (c.blk scope) e elt)))))))))))
  | _, _ => false
def chkA (c : Ct) : LAs → List Expr → Bool
  | .nil, [] => true
  | .cons e es, v :: vs => chkE c e v && chkA c es vs
  | _, _ => false
/-- a part of a slice -/
def chkO (c : Ct) : LO → Option Expr → Bool
  | .none, none => true
  | .some e, some v => chkE c e v
  | _, _ => false
/-- a clause's test -/
def chkF (c : Ct) : LO → List Expr → Bool
  | .none, [] => true
  | .some e, [v] => tokB e && chkE c e v
  | _, _ => false
def chkI (c : Ct) : LI → Expr → Bool
  | .of e, v => chkE c e v
  | .rng es, .Call (.Name x _) vs [] _ => decide (x = ("range" : Str)) && (glB c.sc x && (c.T.free x && ((vs.length == 1 || vs.length == 2) && chkA c es vs)))
  | _, _ => false
end
def notLc : Expr → Bool
  | .ListComp .. => false
  | .SetComp .. => false
  | .DictComp .. => false
  | _ => true
def notSeqE : Expr → Bool
  | .Tuple .. => false
  | .List .. => false
  | _ => true
def setOk (c : Ct) (i : Nat) (x : Str) : Bool := decide (c.N[i]? = some x) && (c.sc.names.lookup x == some .local || (c.sc.names.lookup x == some .cell && c.fn x))
/-- how names are given a pair -/
def asgOk (sc : Scope) (ts : List Expr) : Expr → Bool
  | .Tuple vs _ _ => vs.all (fun e => !isStar e) && swNo sc ts vs
  | v => notSeqE v
mutual
def chkS (c : Ct) : LS → Stmt → Bool
  | .set i e, .Assign [.Name x _] v _ => setOk c i x && ((notLc v || (match v with | .ListComp .. => !(c.sc.names.lookup x == some .local) | _ => false)) && chkE c e v)
  | .setLc i e, .Assign [.Name x py] (.ListComp elt gs scope p) _ => decide (c.N[i]? = some x) && (c.sc.names.lookup x == some .local && ((py.line == p.line) && (!(scope.names.any fun (n, k) => n == x && (k == .local || k == .cell)) && chkE c e (.ListComp elt gs scope p))))
  | .asg (.tp is) e, .Assign [.Tuple ts _ _] v _ => namesOk c.N c.sc c.fn ts is && (notLc v && (asgOk c.sc ts v && chkE c e v))
  | .par i j es, .Assign [.Tuple [.Name x px, .Name y py] _ _] (.Tuple [a, b] _ _) _ => decide (c.N[i]? = some x) && (decide (c.N[j]? = some y) && (decide (i ≠ j) && (c.sc.names.lookup x == some .local && (c.sc.names.lookup y == some .local && (decide (px.line = py.line) && (decide (x ≠ y) && (swYes c.sc [.Name x px, .Name y py] [a, b] && chkA c es [a, b])))))))
  | .stI o i e, .Assign [.Subscript o' i' _] v _ => notSl i' && (chkE c o o' && (chkE c i i' && chkE c e v))
  | .ex e, .Expr v _ => notLc v && chkE c e v
  | .ret e, .Return (some v) _ => chkE c e v
  | .ifs t a b, .If t' a' b' _ => tokB t && (chkE c t t' && (chkB c a a' && chkB c b b'))
  | .whl t b, .While t' b' [] _ => tokB t && (chkE c t t' && chkB c b b')
  | .for_ s tg b, .For t it b' [] _ => notSetE it && (chkI c s it && (chkT c tg t && chkB c b b'))
  | .rai x, .Raise (some (.Call (.Name y _) [.Constant (.str _) _ _] [] _)) none _ => decide (x = y) && (glB c.sc y && (c.T.exc y && plainN y))
  | .pass, .Pass _ => true
  | _, _ => false
def chkB (c : Ct) : LB → List Stmt → Bool
  | .nil, [] => true
  | .cons s b, st :: sts => chkS c s st && chkB c b sts
  | _, _ => false
end
end LC

set_option maxHeartbeats 2000000
/-! LC16: the check is enough: expressions. -/
namespace LC
open PySem PySem.Spec PyProof.Rows L2
structure OkC (X : Cx) (c : Ct) (cf : Str → List D → M D) (K : PySem.W.Frag) (mg : Str → Option Value) (k : Nat) : Prop where
  eN : X.N = c.N
  es : X.env.scope = c.sc
  kind : c.sc.kind = .function
  fn : ∀ x, c.fn x = true → X.fn x = true
  eK : X.K = K
  em : X.mg = mg
  nd : X.N.Nodup
  calm : X.calm = true
  room : Room (k + 1) X.A
  fns : ∀ f n, c.T.ar f = some n → FnAt X.prog X.w K mg X.base (k + 1) f n (cf f)
  free : ∀ x, c.T.free x = true → mg x = none
  glo : ∀ x, c.T.glo x = true → ∃ a, mg x = some (.ref a)
  exc : ∀ x, c.T.exc x = true → ExcF K mg x
theorem OkC.blk {X : Cx} {c : Ct} {cf : Str → List D → M D} {K : PySem.W.Frag} {mg : Str → Option Value} {k : Nat} (o : OkC X c cf K mg k) {scope : Scope} (hk : scope.kind = .function) (s : Shared) (H : Hp) (C : Addr) (cl : List (Str × Addr)) (fp : List Addr) :
    OkC (X.blk s H scope (compEnvC scope cl C X.env) fp) (c.blk scope) cf K mg k where
  eN := o.eN
  es := by
    show relS scope X.env.scope = relS scope c.sc
    rw [o.es]
  kind := hk
  fn := fun x h => h
  eK := o.eK
  em := o.em
  nd := o.nd
  calm := o.calm
  room := o.room
  fns := o.fns
  free := o.free
  glo := o.glo
  exc := o.exc
/-! ### the text's forms -/
theorem ba2 {a b : Bool} (h : (a && b) = true) : a = true ∧ b = true := Bool.and_eq_true_iff.mp h
section
variable {c : Ct}
theorem inv_var {i : Nat} {e : Expr} (h : chkE c (.var i) e = true) : ∃ x p, e = .Name x p ∧ c.N[i]? = some x ∧ visB c.sc x = true ∧ plainN x = true := by
  cases e <;> first | exact absurd h Bool.false_ne_true | skip
  obtain ⟨h1, h2⟩ := ba2 h
  obtain ⟨h2, h3⟩ := ba2 h2
  exact ⟨_, _, rfl, of_decide_eq_true h1, h2, h3⟩
theorem inv_cst {d : D} {e : Expr} (h : chkE c (.cst d) e = true) : ∃ k j p, e = .Constant k j p ∧ cstOk k d = true := by
  cases e <;> first | exact absurd h Bool.false_ne_true | skip
  exact ⟨_, _, _, rfl, h⟩
theorem inv_gfn {x : Str} {e : Expr} (h : chkE c (.gfn x) e = true) : ∃ p, e = .Name x p ∧ glB c.sc x = true ∧ c.T.glo x = true ∧ plainN x = true := by
  cases e <;> first | exact absurd h Bool.false_ne_true | skip
  obtain ⟨h1, h2⟩ := ba2 h
  obtain ⟨h2, h3⟩ := ba2 h2
  obtain ⟨h3, h4⟩ := ba2 h3
  have := of_decide_eq_true h1
  subst this
  exact ⟨_, rfl, h2, h3, h4⟩
theorem inv_ty {b : BT} {e : Expr} (h : chkE c (.ty b) e = true) : ∃ p, e = .Name (b.nm : Str) p ∧ glB c.sc b.nm = true ∧ c.T.free b.nm = true := by
  cases e <;> first | exact absurd h Bool.false_ne_true | skip
  obtain ⟨h1, h2⟩ := ba2 h
  obtain ⟨h2, h3⟩ := ba2 h2
  have := of_decide_eq_true h1
  subst this
  exact ⟨_, rfl, h2, h3⟩
theorem inv_bin {op : Operator} {a b : LE} {e : Expr} (h : chkE c (.bin op a b) e = true) : ∃ l r p, e = .BinOp l op r p ∧ chkE c a l = true ∧ chkE c b r = true := by
  cases e <;> first | exact absurd h Bool.false_ne_true | skip
  obtain ⟨h1, h2⟩ := ba2 h
  obtain ⟨h2, h3⟩ := ba2 h2
  have := of_decide_eq_true h1
  subst this
  exact ⟨_, _, _, rfl, h2, h3⟩
theorem inv_neg {a : LE} {e : Expr} (h : chkE c (.neg a) e = true) : ∃ l p, e = .UnaryOp .USub l p ∧ chkE c a l = true := by
  cases e with
  | UnaryOp o l p =>
    cases o <;> first | exact absurd h Bool.false_ne_true | skip
    exact ⟨_, _, rfl, h⟩
  | _ => exact absurd h Bool.false_ne_true
theorem inv_nt {a : LE} {e : Expr} (h : chkE c (.nt a) e = true) : ∃ l p, e = .UnaryOp .Not l p ∧ tokB a = true ∧ chkE c a l = true := by
  cases e with
  | UnaryOp o l p =>
    cases o <;> first | exact absurd h Bool.false_ne_true | skip
    exact ⟨_, _, rfl, ba2 h⟩
  | _ => exact absurd h Bool.false_ne_true
theorem inv_cmp {op : CmpOp} {a b : LE} {e : Expr} (h : chkE c (.cmp op a b) e = true) : ∃ l r p, e = .Compare l [op] [r] p ∧ notSetE r = true ∧ chkE c a l = true ∧ chkE c b r = true := by
  cases e with
  | Compare l os rs p =>
    rcases os with _ | ⟨o, _ | ⟨o2, os⟩⟩
    · exact absurd h Bool.false_ne_true
    · rcases rs with _ | ⟨r, _ | ⟨r2, rs⟩⟩
      · exact absurd h Bool.false_ne_true
      · obtain ⟨h1, h2⟩ := ba2 h
        obtain ⟨h2, h3⟩ := ba2 h2
        obtain ⟨h3, h4⟩ := ba2 h3
        have := of_decide_eq_true h1
        subst this
        exact ⟨_, _, _, rfl, h2, h3, h4⟩
      · exact absurd h Bool.false_ne_true
    · exact absurd h Bool.false_ne_true
  | _ => exact absurd h Bool.false_ne_true
theorem inv_chn {op op2 : CmpOp} {a b d : LE} {e : Expr} (h : chkE c (.chn op op2 a b d) e = true) : ∃ l m r p, e = .Compare l [op, op2] [m, r] p ∧ notSetE r = true ∧ chkE c a l = true ∧ chkE c b m = true ∧ chkE c d r = true := by
  cases e with
  | Compare l os rs p =>
    rcases os with _ | ⟨o, _ | ⟨o2, _ | ⟨o3, os⟩⟩⟩
    · exact absurd h Bool.false_ne_true
    · exact absurd h Bool.false_ne_true
    · rcases rs with _ | ⟨r, _ | ⟨r2, _ | ⟨r3, rs⟩⟩⟩
      · exact absurd h Bool.false_ne_true
      · exact absurd h Bool.false_ne_true
      · obtain ⟨h1, h2⟩ := ba2 h
        obtain ⟨h2, h3⟩ := ba2 h2
        obtain ⟨h3, h4⟩ := ba2 h3
        obtain ⟨h4, h5⟩ := ba2 h4
        obtain ⟨h5, h6⟩ := ba2 h5
        have := of_decide_eq_true h1
        subst this
        have := of_decide_eq_true h2
        subst this
        exact ⟨_, _, _, _, rfl, h3, h4, h5, h6⟩
      · exact absurd h Bool.false_ne_true
    · exact absurd h Bool.false_ne_true
  | _ => exact absurd h Bool.false_ne_true
theorem inv_bop {t : Bool} {es : LAs} {e : Expr} (h : chkE c (.bop t es) e = true) : ∃ vs p, e = .BoolOp (if t then .And else .Or) vs p ∧ tokA es = true ∧ chkA c es vs = true := by
  cases e <;> first | exact absurd h Bool.false_ne_true | skip
  obtain ⟨h1, h2⟩ := ba2 h
  obtain ⟨h2, h3⟩ := ba2 h2
  have := of_decide_eq_true h1
  subst this
  exact ⟨_, _, rfl, h2, h3⟩
theorem inv_ite {t a b : LE} {e : Expr} (h : chkE c (.ite t a b) e = true) : ∃ t' a' b' p, e = .IfExp t' a' b' p ∧ tokB t = true ∧ chkE c t t' = true ∧ chkE c a a' = true ∧ chkE c b b' = true := by
  cases e <;> first | exact absurd h Bool.false_ne_true | skip
  obtain ⟨h1, h2⟩ := ba2 h
  obtain ⟨h2, h3⟩ := ba2 h2
  obtain ⟨h3, h4⟩ := ba2 h3
  exact ⟨_, _, _, _, rfl, h1, h2, h3, h4⟩
theorem inv_tup {es : LAs} {e : Expr} (h : chkE c (.tup es) e = true) : ∃ vs k p, e = .Tuple vs k p ∧ es.len ≤ 1000 ∧ chkA c es vs = true := by
  cases e <;> first | exact absurd h Bool.false_ne_true | skip
  obtain ⟨h1, h2⟩ := ba2 h
  exact ⟨_, _, _, rfl, of_decide_eq_true h1, h2⟩
theorem inv_lst {es : LAs} {e : Expr} (h : chkE c (.lst es) e = true) : ∃ vs p, e = .List vs p ∧ es.len ≤ 1000 ∧ chkA c es vs = true := by
  cases e <;> first | exact absurd h Bool.false_ne_true | skip
  obtain ⟨h1, h2⟩ := ba2 h
  exact ⟨_, _, rfl, of_decide_eq_true h1, h2⟩
theorem inv_lstC {es : LAs} {e : Expr} (h : chkE c (.lstC es) e = true) : ∃ vs p, e = .List vs p ∧ es.len ≤ 1000 ∧ chkA c es vs = true := by
  cases e <;> first | exact absurd h Bool.false_ne_true | skip
  obtain ⟨h1, h2⟩ := ba2 h
  exact ⟨_, _, rfl, of_decide_eq_true h1, h2⟩
theorem inv_addC {a b : LE} {e : Expr} (h : chkE c (.addC a b) e = true) : ∃ l r p, e = .BinOp l .Add r p ∧ chkE c a l = true ∧ chkE c b r = true := by
  cases e with
  | BinOp l o r p =>
    cases o <;> first | exact absurd h Bool.false_ne_true | skip
    exact ⟨_, _, _, rfl, ba2 h⟩
  | _ => exact absurd h Bool.false_ne_true
theorem inv_idx {a i : LE} {e : Expr} (h : chkE c (.idx a i) e = true) : ∃ l s p, e = .Subscript l s p ∧ notSl s = true ∧ chkE c a l = true ∧ chkE c i s = true := by
  cases e <;> first | exact absurd h Bool.false_ne_true | skip
  obtain ⟨h1, h2⟩ := ba2 h
  obtain ⟨h2, h3⟩ := ba2 h2
  exact ⟨_, _, _, rfl, h1, h2, h3⟩
theorem inv_slc {a : LE} {lo hi : LO} {e : Expr} (h : chkE c (.slc a lo hi) e = true) : ∃ l lo' hi' p2 p, e = .Subscript l (.Slice lo' hi' none p2) p ∧ chkE c a l = true ∧ chkO c lo lo' = true ∧ chkO c hi hi' = true := by
  cases e with
  | Subscript l s p =>
    cases s with
    | Slice l2 h2 st p2 =>
      cases st with
      | none =>
        obtain ⟨h1, h2⟩ := ba2 h
        exact ⟨_, _, _, _, _, rfl, h1, ba2 h2⟩
      | some _ => exact absurd h Bool.false_ne_true
    | _ => exact absurd h Bool.false_ne_true
  | _ => exact absurd h Bool.false_ne_true
theorem inv_callN {f : Expr} {vs : List Expr} {ks : List Keyword} {p : Pos} {b : Bool} (h : (match Expr.Call f vs ks p with
    | .Call (.Name x _) (v :: vs) [] _ => b
    | _ => false) = true) : True := trivial
theorem inv_call {f : Str} {es : LAs} {e : Expr} (h : chkE c (.call f es) e = true) : ∃ vs p2 p, e = .Call (.Name f p2) vs [] p ∧ glB c.sc f = true ∧ c.T.ar f = some es.len ∧ plainN f = true ∧ chkA c es vs = true := by
  cases e with
  | Call g vs ks p =>
    cases g with
    | Name x p2 =>
      cases ks with
      | nil =>
        obtain ⟨h1, h2⟩ := ba2 h
        obtain ⟨h2, h3⟩ := ba2 h2
        obtain ⟨h3, h4⟩ := ba2 h3
        obtain ⟨h4, h5⟩ := ba2 h4
        have := of_decide_eq_true h1
        subst this
        exact ⟨_, _, _, rfl, h2, of_decide_eq_true h3, h4, h5⟩
      | cons _ _ => exact absurd h Bool.false_ne_true
    | _ => exact absurd h Bool.false_ne_true
  | _ => exact absurd h Bool.false_ne_true
theorem inv_listC {es : LAs} {e : Expr} (h : chkE c (.listC es) e = true) : ∃ v vs p2 p, e = .Call (.Name ("list" : Str) p2) (v :: vs) [] p ∧ glB c.sc "list" = true ∧ c.T.free "list" = true ∧ chkA c es (v :: vs) = true := by
  cases e with
  | Call g vs ks p =>
    cases g with
    | Name x p2 =>
      cases ks with
      | nil =>
        cases vs with
        | nil => exact absurd h Bool.false_ne_true
        | cons v vs =>
          obtain ⟨h1, h2⟩ := ba2 h
          obtain ⟨h2, h3⟩ := ba2 h2
          obtain ⟨h3, h4⟩ := ba2 h3
          have := of_decide_eq_true h1
          subst this
          exact ⟨_, _, _, _, rfl, h2, h3, h4⟩
      | cons _ _ => cases vs <;> exact absurd h Bool.false_ne_true
    | _ => exact absurd h Bool.false_ne_true
  | _ => exact absurd h Bool.false_ne_true
theorem inv_blt {b : BF} {es : LAs} {e : Expr} (h : chkE c (.blt b es) e = true) : ∃ v vs p2 p, e = .Call (.Name (b.id : Str) p2) (v :: vs) [] p ∧ glB c.sc b.id = true ∧ c.T.free b.id = true ∧ chkA c es (v :: vs) = true := by
  cases e with
  | Call g vs ks p =>
    cases g with
    | Name x p2 =>
      cases ks with
      | nil =>
        cases vs with
        | nil => exact absurd h Bool.false_ne_true
        | cons v vs =>
          obtain ⟨h1, h2⟩ := ba2 h
          obtain ⟨h2, h3⟩ := ba2 h2
          obtain ⟨h3, h4⟩ := ba2 h3
          have := of_decide_eq_true h1
          subst this
          exact ⟨_, _, _, _, rfl, h2, h3, h4⟩
      | cons _ _ => cases vs <;> exact absurd h Bool.false_ne_true
    | _ => exact absurd h Bool.false_ne_true
  | _ => exact absurd h Bool.false_ne_true
theorem inv_isi {es : LAs} {e : Expr} (h : chkE c (.isi es) e = true) : ∃ v vs p2 p, e = .Call (.Name ("isinstance" : Str) p2) (v :: vs) [] p ∧ glB c.sc "isinstance" = true ∧ c.T.free "isinstance" = true ∧ chkA c es (v :: vs) = true := by
  cases e with
  | Call g vs ks p =>
    cases g with
    | Name x p2 =>
      cases ks with
      | nil =>
        cases vs with
        | nil => exact absurd h Bool.false_ne_true
        | cons v vs =>
          obtain ⟨h1, h2⟩ := ba2 h
          obtain ⟨h2, h3⟩ := ba2 h2
          obtain ⟨h3, h4⟩ := ba2 h3
          have := of_decide_eq_true h1
          subst this
          exact ⟨_, _, _, _, rfl, h2, h3, h4⟩
      | cons _ _ => cases vs <;> exact absurd h Bool.false_ne_true
    | _ => exact absurd h Bool.false_ne_true
  | _ => exact absurd h Bool.false_ne_true
theorem inv_lc {vs : List Nat} {s : LI} {tg : LT} {co : LO} {le : LE} {e : Expr} (h : chkE c (.lc vs s tg co le) e = true) : ∃ elt t it ifs scope p, e = .ListComp elt [⟨t, it, ifs, 0⟩] scope p ∧ blkC c.N c.sc scope (ownOf c.N vs) = true ∧ tg.slots.all (fun i => vs.contains i) = true ∧ notSetE it = true ∧ chkI c s it = true ∧
    chkT (c.blk scope) tg t = true ∧ chkF (c.blk scope) co ifs = true ∧ chkE (c.blk scope) le elt = true := by
  cases e with
  | ListComp elt gs scope p =>
    rcases gs with _ | ⟨⟨t, it, ifs, n⟩, _ | ⟨g2, gs⟩⟩
    · exact absurd h Bool.false_ne_true
    · by_cases hn : n = 0
      · subst hn
        obtain ⟨h1, h2⟩ := ba2 h
        obtain ⟨h2, h3⟩ := ba2 h2
        obtain ⟨h3, h4⟩ := ba2 h3
        obtain ⟨h4, h5⟩ := ba2 h4
        obtain ⟨h5, h6⟩ := ba2 h5
        obtain ⟨h6, h7⟩ := ba2 h6
        exact ⟨_, _, _, _, _, _, rfl, h1, h2, h3, h4, h5, h6, h7⟩
      · rcases n with (_ | n) | n
        · exact absurd rfl hn
        · exact absurd h Bool.false_ne_true
        · exact absurd h Bool.false_ne_true
    · exact absurd h (by rcases g2 with ⟨_, _, _, n2⟩; simp [chkE])
  | _ => exact absurd h Bool.false_ne_true
end
end LC

set_option maxHeartbeats 2000000
/-! LC17: the check is enough: expressions, the induction. -/
namespace LC
open PySem PySem.Spec PyProof.Rows L2
section
variable {c : Ct}
theorem inv_lc2 {vs vs1 : List Nat} {s s1 : LI} {tg tg1 : LT} {co co1 : LO} {le : LE} {e : Expr} (h : chkE c (.lc2 vs vs1 s tg co s1 tg1 co1 le) e = true) : ∃ elt t it ifs t1 it1 ifs1 scope p, e = .ListComp elt [⟨t, it, ifs, 0⟩, ⟨t1, it1, ifs1, 0⟩] scope p ∧ blkC c.N c.sc scope (ownOf c.N vs) = true ∧ tg.slots.all (fun i => vs.contains i) = true ∧ notSetE it = true ∧ chkI c s it = true ∧
    chkT (c.blk scope) tg t = true ∧ chkF (c.blk scope) co ifs = true ∧ vs1.all (fun i => vs.contains i) = true ∧ tg1.slots.all (fun i => vs1.contains i) = true ∧ notSetE it1 = true ∧ chkI (c.blk scope) s1 it1 = true ∧ chkT (c.blk scope) tg1 t1 = true ∧ chkF (c.blk scope) co1 ifs1 = true ∧ chkE (c.blk scope) le elt = true := by
  cases e with
  | ListComp elt gs scope p =>
    rcases gs with _ | ⟨⟨t, it, ifs, n⟩, _ | ⟨⟨t1, it1, ifs1, n1⟩, _ | ⟨g3, gs⟩⟩⟩
    · exact absurd h Bool.false_ne_true
    · exact absurd h (by simp [chkE])
    · by_cases hn : n = 0
      · subst hn
        by_cases hn1 : n1 = 0
        · subst hn1
          obtain ⟨h1, h⟩ := ba2 h
          obtain ⟨h2, h⟩ := ba2 h
          obtain ⟨h3, h⟩ := ba2 h
          obtain ⟨h4, h⟩ := ba2 h
          obtain ⟨h5, h⟩ := ba2 h
          obtain ⟨h6, h⟩ := ba2 h
          obtain ⟨h7, h⟩ := ba2 h
          obtain ⟨h8, h⟩ := ba2 h
          obtain ⟨h9, h⟩ := ba2 h
          obtain ⟨h10, h⟩ := ba2 h
          obtain ⟨h11, h⟩ := ba2 h
          obtain ⟨h12, h⟩ := ba2 h
          exact ⟨_, _, _, _, _, _, _, _, _, rfl, h1, h2, h3, h4, h5, h6, h7, h8, h9, h10, h11, h12, h⟩
        · exact absurd h (by simp [chkE, hn1])
      · exact absurd h (by simp [chkE, hn])
    · exact absurd h (by simp [chkE])
  | _ => exact absurd h Bool.false_ne_true
theorem inv_rng {es : LAs} {e : Expr} (h : chkI c (.rng es) e = true) : ∃ vs p2 p, e = .Call (.Name ("range" : Str) p2) vs [] p ∧ glB c.sc "range" = true ∧ c.T.free "range" = true ∧ (vs.length == 1 || vs.length == 2) = true ∧ chkA c es vs = true := by
  cases e with
  | Call g vs ks p =>
    cases g with
    | Name x p2 =>
      cases ks with
      | nil =>
        obtain ⟨h1, h2⟩ := ba2 h
        obtain ⟨h2, h3⟩ := ba2 h2
        obtain ⟨h3, h4⟩ := ba2 h3
        obtain ⟨h4, h5⟩ := ba2 h4
        have := of_decide_eq_true h1
        subst this
        exact ⟨_, _, _, rfl, h2, h3, h4, h5⟩
      | cons _ _ => exact absurd h Bool.false_ne_true
    | _ => exact absurd h Bool.false_ne_true
  | _ => exact absurd h Bool.false_ne_true
theorem chkE_star {le : LE} {e : Expr} (h : chkE c le e = true) : isStar e = false := by
  cases e with
  | Starred _ _ => cases le <;> exact absurd h Bool.false_ne_true
  | _ => rfl
theorem vis_of {x : Str} (h : visB c.sc x = true) : Vis c.sc x := by
  unfold visB at h
  split at h
  · exact .inl (by assumption)
  · exact .inr (.inl (by assumption))
  · exact .inr (.inr (by assumption))
  · cases h
theorem plain_of {x : Str} (h : plainN x = true) : (x == ("__debug__" : Str)) = false ∧ (x == ("__classdict__" : Str)) = false := by
  obtain ⟨a, b⟩ := ba2 h
  exact ⟨by simpa using a, by simpa using b⟩
theorem behind_of {r : Expr} {op : CmpOp} (h : notSetE r = true) : behindInMarks op r = false := by
  cases r <;> first | rfl | cases h
theorem fold_of2 {r : Expr} (h : notSetE r = true) (env : PySem.Env) (x : Value) : foldedSetIterable r env x = pure x := by
  cases r <;> first | rfl | cases h
theorem own_map (vs : List Nat) : vs = (ownOf c.N vs).map (·.2) := by
  unfold ownOf
  rw [List.map_map]
  show vs = vs.map fun i => i
  rw [List.map_id']
theorem sub_of {us vs : List Nat} (h : us.all (fun i => vs.contains i) = true) : ∀ i ∈ us, i ∈ vs := fun i hi => by
  have := List.all_eq_true.mp h i hi
  simpa using this
theorem blk_kind {N : List Str} {sc scope : Scope} {own : List (Str × Nat)} (ok : BlkOk N sc scope own) : scope.kind = .function := ok.kind
end
section
variable {cf : Str → List D → M D} {K : PySem.W.Frag} {mg : Str → Option Value} {k : Nat}
theorem gl_of {X : Cx} {c : Ct} (o : OkC X c cf K mg k) {x : Str} (h : glB c.sc x = true) : Gl X x := by
  have h' : c.sc.names.lookup x = some .globalImplicit := eq_of_beq h
  show X.env.scope.names.lookup x = _
  rw [o.es]
  exact h'
theorem free_of {X : Cx} {c : Ct} (o : OkC X c cf K mg k) {x : Str} (h : c.T.free x = true) : X.mg x = none := by
  rw [o.em]
  exact o.free x h
theorem sndT {X : Cx} {c : Ct} (o : OkC X c cf K mg k) : ∀ {tg : LT} {e : Expr}, chkT c tg e = true → PG X e (TGv K mg tg)
  | .nm i, e, h => by
    cases e with
    | Name x p =>
      obtain ⟨h1, h2⟩ := ba2 (show (decide (c.N[i]? = some x) && ((c.sc.names.lookup x == some .local || (c.sc.names.lookup x == some .cell && c.fn x)) && true)) = true from h)
      obtain ⟨h2, _⟩ := ba2 h2
      obtain ⟨a, b⟩ := name_ok h2
      exact sG_nm o.nd (by rw [o.eN]; exact of_decide_eq_true h1) (by rw [o.es]; exact a) (by rw [o.es]; exact b.elim (fun z => .inl (o.fn x z)) .inr)
    | _ => exact absurd h Bool.false_ne_true
  | .tp is, e, h => by
    cases e with
    | Tuple es k p => exact sG_tp o.calm o.nd o.fn (by rw [o.eN, o.es]; exact h) o.eK
    | _ => exact absurd h Bool.false_ne_true
abbrev GoodE (cf : Str → List D → M D) (K : PySem.W.Frag) (mg : Str → Option Value) (k : Nat) (c : Ct) (le : LE) (e : Expr) : Prop :=
  (∀ (X : Cx) (W : WX), OkC X c cf K mg k → Takes X W → PE X e (TEv K mg W (evE cf le))) ∧ (tokB le = true → ∀ (X : Cx) (W : WX), OkC X c cf K mg k → Takes X W → PT X e (TTv K mg W (asBl (evE cf le))))
/-- where a test is an ordinary value -/
theorem goodV {c : Ct} {le : LE} {e : Expr} (he : ∀ (env : PySem.Env) (whole : Sem Value), isTrue e env whole = (do let v ← whole; standAt e.pos; holding [v] (truthy v))) (h : ∀ (X : Cx) (W : WX), OkC X c cf K mg k → Takes X W → PE X e (TEv K mg W (evE cf le))) : GoodE cf K mg k c le e :=
  ⟨h, fun _ X W o tk => sT_val (he X.env) (h X W o tk)⟩
theorem lenA : ∀ es : LAs, LenIs (evA cf es) es.len
  | .nil => lenIs_nil
  | .cons e es => lenIs_cons (lenA es)
theorem hu1 {X : Cx} {c : Ct} (o : OkC X c cf K mg k) : Room 1 X.A := o.room.mono (by omega)
mutual
theorem sndE : ∀ (le : LE) (c : Ct) (e : Expr), chkE c le e = true → GoodE cf K mg k c le e
  | .var i, c, e, h => by
    obtain ⟨x, p, rfl, h1, h2, h3⟩ := inv_var h
    obtain ⟨h4, h5⟩ := plain_of h3
    exact goodV (fun _ _ => rfl) fun X W o tk => sE_var (by rw [o.eN]; exact h1) (by rw [o.es]; exact vis_of h2) h4 h5
  | .cst d, c, e, h => by
    obtain ⟨x, j, p, rfl, h1⟩ := inv_cst h
    exact goodV (fun _ _ => rfl) fun X W o tk => sE_cst h1
  | .gfn x, c, e, h => by
    obtain ⟨p, rfl, h1, h2, h3⟩ := inv_gfn h
    exact goodV (fun _ _ => rfl) fun X W o tk => sE_gfn (gl_of o h1) (o.glo x h2) o.em (plain_of h3).1
  | .ty b, c, e, h => by
    obtain ⟨p, rfl, h1, h2⟩ := inv_ty h
    exact goodV (fun _ _ => rfl) fun X W o tk => sE_ty (gl_of o h1) (free_of o h2) (bt_boot b).1 (bt_boot b).2.1 (bt_boot b).2.2
  | .bin op a b, c, e, h => by
    obtain ⟨l, r, p, rfl, h1, h2⟩ := inv_bin h
    exact goodV (fun _ _ => rfl) fun X W o tk => by
      have ho := op_bin (X := X) op
      rw [o.eK] at ho
      exact sE_op ho (snd_bin op) ((sndE a c l h1).1 X W o tk) ((sndE b c r h2).1 X W o tk)
  | .neg a, c, e, h => by
    obtain ⟨l, p, rfl, h1⟩ := inv_neg h
    exact goodV (fun _ _ => rfl) fun X W o tk => sE_neg ((sndE a c l h1).1 X W o tk)
  | .nt a, c, e, h => by
    obtain ⟨l, p, rfl, h1, h2⟩ := inv_nt h
    exact ⟨fun X W o tk => sE_not ((sndE a c l h2).1 X W o tk), fun _ X W o tk => sT_not ((sndE a c l h2).2 h1 X W o tk)⟩
  | .cmp op a b, c, e, h => by
    obtain ⟨l, r, p, rfl, h1, h2, h3⟩ := inv_cmp h
    refine ⟨fun X W o tk => ?_, fun _ X W o tk => ?_⟩
    · have ho := op_cmp (X := X) (hu1 o) op
      rw [o.eK] at ho
      exact sE_cmp ho (snd_cmp op) (behind_of h1) ((sndE a c l h2).1 X W o tk) ((sndE b c r h3).1 X W o tk)
    · have ho := op_cmp (X := X) (hu1 o) op
      rw [o.eK] at ho
      exact sT_cmp ho (snd_cmp op) (behind_of h1) ((sndE a c l h2).1 X W o tk) ((sndE b c r h3).1 X W o tk)
  | .chn op op2 a b d, c, e, h => by
    obtain ⟨l, m, r, p, rfl, h1, h2, h3, h4⟩ := inv_chn h
    refine ⟨fun X W o tk => ?_, fun _ X W o tk => ?_⟩
    · have ho := op_cmp (X := X) (hu1 o) op
      have ho2 := op_cmp (X := X) (hu1 o) op2
      rw [o.eK] at ho ho2
      exact sE_chn ho ho2 (snd_cmp op) (snd_cmp op2) (behind_of h1) ((sndE a c l h2).1 X W o tk) ((sndE b c m h3).1 X W o tk) ((sndE d c r h4).1 X W o tk)
    · have ho := op_cmp (X := X) (hu1 o) op
      have ho2 := op_cmp (X := X) (hu1 o) op2
      rw [o.eK] at ho ho2
      exact sT_chn ho ho2 (snd_cmp op) (snd_cmp op2) (behind_of h1) ((sndE a c l h2).1 X W o tk) ((sndE b c m h3).1 X W o tk) ((sndE d c r h4).1 X W o tk)
  | .bop t es, c, e, h => by
    obtain ⟨vs, p, rfl, h1, h2⟩ := inv_bop h
    exact ⟨fun X W o tk => (sndB t es c vs h2 h1 p X W o tk).1, fun _ X W o tk => (sndB t es c vs h2 h1 p X W o tk).2.pt⟩
  | .ite t a b, c, e, h => by
    obtain ⟨t', a', b', p, rfl, h1, h2, h3, h4⟩ := inv_ite h
    exact ⟨fun X W o tk => sE_ite ((sndE t c t' h2).2 h1 X W o tk) ((sndE a c a' h3).1 X W o tk) ((sndE b c b' h4).1 X W o tk), fun z => by cases z⟩
  | .tup es, c, e, h => by
    obtain ⟨vs, j, p, rfl, h1, h2⟩ := inv_tup h
    exact goodV (fun _ _ => rfl) fun X W o tk => sE_tup (lenA es) h1 ((sndA es c vs h2).1 X W o tk)
  | .lst es, c, e, h => by
    obtain ⟨vs, p, rfl, h1, h2⟩ := inv_lst h
    exact goodV (fun _ _ => rfl) fun X W o tk => sE_lst (lenA es) h1 ((sndA es c vs h2).1 X W o tk)
  | .lstC es, c, e, h => by
    obtain ⟨vs, p, rfl, h1, h2⟩ := inv_lstC h
    exact goodV (fun _ _ => rfl) fun X W o tk => sE_lstC (lenA es) h1 ((sndA es c vs h2).1 X W o tk)
  | .addC a b, c, e, h => by
    obtain ⟨l, r, p, rfl, h1, h2⟩ := inv_addC h
    exact goodV (fun _ _ => rfl) fun X W o tk => sE_addC o.eK ((sndE a c l h1).1 X W o tk) ((sndE b c r h2).1 X W o tk)
  | .listC es, c, e, h => by
    obtain ⟨v, vs, p2, p, rfl, h1, h2, h3⟩ := inv_listC h
    exact goodV (fun _ _ => rfl) fun X W o tk => sE_listC o.eK (gl_of o h1) (free_of o h2) (bt_boot .list).1 (bt_boot .list).2.1 (bt_boot .list).2.2 (sndA es c (v :: vs) h3).2 ((sndA es c (v :: vs) h3).1 X W o tk)
  | .idx a i, c, e, h => by
    obtain ⟨l, s, p, rfl, h1, h2, h3⟩ := inv_idx h
    exact goodV (fun _ _ => rfl) fun X W o tk => sE_idx h1 ((sndE a c l h2).1 X W o tk) ((sndE i c s h3).1 X W o tk) o.eK
  | .slc a lo hi, c, e, h => by
    obtain ⟨l, lo', hi', p2, p, rfl, h1, h2, h3⟩ := inv_slc h
    exact goodV (fun _ _ => rfl) fun X W o tk => sE_slice o.eK ((sndE a c l h1).1 X W o tk) (sndO lo c lo' h2 X W o tk) (sndO hi c hi' h3 X W o tk)
  | .call f .nil, c, e, h => by
    obtain ⟨vs, p2, p, rfl, h1, h2, h3, h4⟩ := inv_call h
    cases vs with
    | nil => exact goodV (fun _ _ => rfl) fun X W o tk => sE_call0 o.eK o.em (o.fns f 0 h2) o.room (gl_of o h1) (plain_of h3).1
    | cons _ _ => exact absurd h4 Bool.false_ne_true
  | .call f (.cons a es), c, e, h => by
    obtain ⟨vs, p2, p, rfl, h1, h2, h3, h4⟩ := inv_call h
    cases vs with
    | nil => exact absurd h4 Bool.false_ne_true
    | cons v vs =>
      obtain ⟨h5, h6⟩ := ba2 (show (chkE c a v && chkA c es vs) = true from h4)
      have g1 := sndE a c v h5
      have g2 := sndA es c vs h6
      refine goodV (fun _ _ => rfl) fun X W o tk => ?_
      refine sE_call o.eK o.em (o.fns f _ h2) o.room tk (gl_of o h1) (lenIs_cons (lenA es)) (plain_of h3).1 (fun z hz => ?_) (sA_cons (chkE_star h5) (g1.1 X W o tk) (g2.1 X W o tk))
      rcases List.mem_cons.mp hz with rfl | hz
      · exact chkE_star h5
      · exact g2.2 z hz
  | .blt b es, c, e, h => by
    obtain ⟨v, vs, p2, p, rfl, h1, h2, h3⟩ := inv_blt h
    refine goodV (fun _ _ => rfl) fun X W o tk => ?_
    have hc := call_bf (X := X) o.calm (o.room.hd) b
    rw [o.eK] at hc
    exact sE_callV (bf_val b) hc (snd_bf (by have := (hu1 o).un; omega) b) (gl_of o h1) (free_of o h2) (bf_boot b).1 (bf_boot b).2.1 (bf_boot b).2.2 (sndA es c (v :: vs) h3).2 ((sndA es c (v :: vs) h3).1 X W o tk)
  | .isi es, c, e, h => by
    obtain ⟨v, vs, p2, p, rfl, h1, h2, h3⟩ := inv_isi h
    refine goodV (fun _ _ => rfl) fun X W o tk => ?_
    have hc := call_isi (X := X)
    rw [o.eK] at hc
    exact sE_callV (.inl ⟨_, rfl⟩) hc snd_isi (gl_of o h1) (free_of o h2) (by decide +kernel) (by decide) (by decide) (sndA es c (v :: vs) h3).2 ((sndA es c (v :: vs) h3).1 X W o tk)
  | .lc vs s tg co le, c, e, h => by
    obtain ⟨elt, t, it, ifs, scope, p, rfl, h1, h2, h3, h4, h5, h6, h7⟩ := inv_lc h
    have g1 := sndI s c it t h4
    have g2 := sndF co (c.blk scope) ifs h6
    have g3 := sndE le (c.blk scope) elt h7
    refine goodV (fun _ _ => rfl) fun X W o tk => ?_
    have ok : BlkOk X.N X.env.scope scope (ownOf c.N vs) := by
      rw [o.eN, o.es]
      exact blkOk_by h1
    exact sE_lc (own_map vs) (sub_of h2) o.calm o.nd (g1 X W o tk) ok (fun s H C cl fp => sndT (o.blk ok.kind s H C cl fp) h5) (fun s H C cl fp => g2 _ (o.blk ok.kind s H C cl fp)) (fun s H C cl fp => g3.1 _ _ (o.blk ok.kind s H C cl fp) takes0) (fold_of2 h3 _)
  | .lc2 vs vs1 s tg co s1 tg1 co1 le, c, e, h => by
    obtain ⟨elt, t, it, ifs, t1, it1, ifs1, scope, p, rfl, h1, h2, h3, h4, h5, h6, h7, h8, h9, h10, h11, h12, h13⟩ := inv_lc2 h
    have g1 := sndI s c it t h4
    have g2 := sndF co (c.blk scope) ifs h6
    have g3 := sndI s1 (c.blk scope) it1 t1 h10
    have g4 := sndF co1 (c.blk scope) ifs1 h12
    have g5 := sndE le (c.blk scope) elt h13
    refine goodV (fun _ _ => rfl) fun X W o tk => ?_
    have ok : BlkOk X.N X.env.scope scope (ownOf c.N vs) := by
      rw [o.eN, o.es]
      exact blkOk_by h1
    exact sE_lc2 (own_map vs) (by rw [← own_map (c := c) vs]; exact sub_of h7) (sub_of h2) (sub_of h8) o.calm o.nd (g1 X W o tk) ok (fun s H C cl fp => sndT (o.blk ok.kind s H C cl fp) h5) (fun s H C cl fp => g2 _ (o.blk ok.kind s H C cl fp))
      (fun s H C cl fp => g3 _ _ (o.blk ok.kind s H C cl fp) takes0) (fun s H C cl fp => sndT (o.blk ok.kind s H C cl fp) h11) (fun s H C cl fp => g4 _ (o.blk ok.kind s H C cl fp)) (fun s H C cl fp => g5.1 _ _ (o.blk ok.kind s H C cl fp) takes0) (fold_of2 h3 _) (fold_of2 h9)
theorem sndA : ∀ (es : LAs) (c : Ct) (vs : List Expr), chkA c es vs = true → (∀ (X : Cx) (W : WX), OkC X c cf K mg k → Takes X W → PA X vs (TAv K mg W (evA cf es))) ∧ ∀ z ∈ vs, isStar z = false
  | .nil, c, [], h => ⟨fun X W o tk => sA_nil, fun z hz => by cases hz⟩
  | .nil, c, _ :: _, h => absurd h Bool.false_ne_true
  | .cons e es, c, [], h => absurd h Bool.false_ne_true
  | .cons e es, c, v :: vs, h => by
    obtain ⟨h1, h2⟩ := ba2 (show (chkE c e v && chkA c es vs) = true from h)
    have g1 := sndE e c v h1
    have g2 := sndA es c vs h2
    refine ⟨fun X W o tk => sA_cons (chkE_star h1) (g1.1 X W o tk) (g2.1 X W o tk), fun z hz => ?_⟩
    rcases List.mem_cons.mp hz with rfl | hz
    · exact chkE_star h1
    · exact g2.2 z hz
theorem sndB : ∀ (t : Bool) (es : LAs) (c : Ct) (vs : List Expr), chkA c es vs = true → tokA es = true → ∀ (p : Pos) (X : Cx) (W : WX), OkC X c cf K mg k → Takes X W →
    PE X (.BoolOp (if t then .And else .Or) vs p) (TEv K mg W (evB cf t es)) ∧ PW X (.BoolOp (if t then .And else .Or) vs p) (TTv K mg W (asBl (evB cf t es)))
  | t, .nil, c, vs, h, _, p, X, W, o, tk => by
    refine ⟨⟨fun pins s σ H Q I q => ?_⟩, ⟨fun w pins s σ H Q I q => ?_⟩⟩
    · obtain ⟨_, _, _, _, _, _, _, _, q⟩ := q
      exact q.elim
    · obtain ⟨_, _, _, _, _, _, _, _, q⟩ := q
      exact q.elim
  | t, .cons e .nil, c, vs, h, ht, p, X, W, o, tk => by
    cases vs with
    | nil => exact absurd h Bool.false_ne_true
    | cons v vs =>
      obtain ⟨h1, h2⟩ := ba2 (show (chkE c e v && chkA c .nil vs) = true from h)
      cases vs with
      | cons _ _ => exact absurd h2 Bool.false_ne_true
      | nil =>
        have g1 := sndE e c v h1
        have ht' : tokB e = true := (ba2 ht).1
        exact ⟨sE_one (g1.1 X W o tk), sW_one (g1.2 ht' X W o tk)⟩
  | t, .cons e (.cons e2 es), c, vs, h, ht, p, X, W, o, tk => by
    cases vs with
    | nil => exact absurd h Bool.false_ne_true
    | cons v vs =>
      obtain ⟨h1, h2⟩ := ba2 (show (chkE c e v && chkA c (.cons e2 es) vs) = true from h)
      cases vs with
      | nil => exact absurd h2 Bool.false_ne_true
      | cons v2 vs =>
        have g1 := sndE e c v h1
        obtain ⟨ht1, ht2⟩ := ba2 ht
        have g2 := sndB t (.cons e2 es) c (v2 :: vs) h2 ht2 p X W o tk
        cases t with
        | true => exact ⟨sE_and (g1.1 X W o tk) g2.1, sW_and (g1.2 ht1 X W o tk) g2.2⟩
        | false => exact ⟨sE_or (g1.1 X W o tk) g2.1, sW_or (g1.2 ht1 X W o tk) g2.2⟩
theorem sndO : ∀ (lo : LO) (c : Ct) (e : Option Expr), chkO c lo e = true → ∀ (X : Cx) (W : WX), OkC X c cf K mg k → Takes X W → PO X e (TOv K mg W (optI (evO cf lo)))
  | .none, c, none, h, X, W, o, tk => sO_none
  | .none, c, some _, h, _, _, _, _ => absurd h Bool.false_ne_true
  | .some _, c, none, h, _, _, _, _ => absurd h Bool.false_ne_true
  | .some le, c, some e, h, X, W, o, tk => sO_some ((sndE le c e h).1 X W o tk)
theorem sndF : ∀ (lo : LO) (c : Ct) (es : List Expr), chkF c lo es = true → ∀ (X : Cx), OkC X c cf K mg k → PTs X es (TTo K mg (evO cf lo))
  | .none, c, [], h, X, o => pts_nil
  | .none, c, _ :: _, h, X, o => absurd h Bool.false_ne_true
  | .some _, c, [], h, X, o => absurd h Bool.false_ne_true
  | .some _, c, _ :: _ :: _, h, X, o => absurd h Bool.false_ne_true
  | .some le, c, [e], h, X, o => pts_one ((sndE le c e (ba2 h).2).2 (ba2 h).1 X W0 o takes0)
theorem sndI : ∀ (s : LI) (c : Ct) (e tg : Expr), chkI c s e = true → ∀ (X : Cx) (W : WX), OkC X c cf K mg k → Takes X W → PI X tg e (TIv K mg W (evI cf s))
  | .of le, c, e, tg, h, X, W, o, tk => sI_of o.eK ((sndE le c e (by cases e <;> exact h)).1 X W o tk)
  | .rng es, c, e, tg, h, X, W, o, tk => by
    obtain ⟨vs, p2, p, rfl, h1, h2, h3, h4⟩ := inv_rng h
    have g := sndA es c vs h4
    have hl := lenA (cf := cf) es
    rcases vs with _ | ⟨v, _ | ⟨v2, _ | ⟨v3, vs⟩⟩⟩
    · cases h3
    · rcases es with _ | ⟨e1, _ | ⟨e2, es⟩⟩
      · exact absurd h4 Bool.false_ne_true
      · exact sI_rng1 (g.2 v List.mem_cons_self) (gl_of o h1) (free_of o h2) (g.1 X W o tk) hl
      · exact absurd (ba2 (show (chkE c e1 v && chkA c (.cons e2 es) []) = true from h4)).2 Bool.false_ne_true
    · rcases es with _ | ⟨e1, _ | ⟨e2, _ | ⟨e3, es⟩⟩⟩
      · exact absurd h4 Bool.false_ne_true
      · exact absurd (ba2 (show (chkE c e1 v && chkA c .nil [v2]) = true from h4)).2 Bool.false_ne_true
      · exact sI_rng2 (g.2 v List.mem_cons_self) (g.2 v2 (List.mem_cons_of_mem _ List.mem_cons_self)) (gl_of o h1) (free_of o h2) (g.1 X W o tk) hl
      · exact absurd (ba2 (show (chkE c e2 v2 && chkA c (.cons e3 es) []) = true from (ba2 (show (chkE c e1 v && chkA c (.cons e2 (.cons e3 es)) [v2]) = true from h4)).2)).2 Bool.false_ne_true
    · cases h3
end
end
end LC

set_option maxHeartbeats 2000000
/-! LC18: the check is enough: statements. -/
namespace LC
open PySem PySem.Spec PyProof.Rows L2
section
variable {cf : Str → List D → M D} {K : PySem.W.Frag} {mg : Str → Option Value} {k : Nat}
theorem sw_sub {o i e : Expr} {p : Pos} {l : Nat} {env : PySem.Env} : swapsWithSole [.Subscript o i p] e l env = pure false := by
  cases e <;> rfl
theorem ss_sub {o i e : Expr} {p : Pos} {env : PySem.Env} : swappedStores [.Subscript o i p] e env = pure none := by
  cases e <;> rfl
theorem sw_tup {ts : List Expr} {n : Nat} {e : Expr} {p : Pos} {l : Nat} {env : PySem.Env} : swapsWithSole [.Tuple ts n p] e l env = pure false := by
  cases e <;> rfl
theorem ss_tup {ts : List Expr} {n : Nat} {e : Expr} {p : Pos} {env : PySem.Env} {sc : Scope} (es : env.scope = sc) (hk : sc.kind = .function) (h : asgOk sc ts e = true) : swappedStores [.Tuple ts n p] e env = pure none := by
  subst es
  cases e with
  | Tuple vs _ _ => exact swapped_no hk (ba2 h).1 (ba2 h).2
  | List vs _ => exact absurd h Bool.false_ne_true
  | _ => rfl
theorem lcn {e : Expr} {t : Option Expr} {l : Nat} {env : PySem.Env} (h : notLc e = true) : swapsWith e t l env = pure false := by
  cases e <;> first | rfl | exact absurd h Bool.false_ne_true
theorem name_loc {X : Cx} {c : Ct} (o : OkC X c cf K mg k) {i : Nat} {x : Str} (h : setOk c i x = true) : X.N[i]? = some x ∧ Loc X.env.scope x ∧ (X.fn x = true ∨ X.env.scope.names.lookup x = some .local) := by
  obtain ⟨h1, h2⟩ := ba2 h
  have a : namesOk c.N c.sc c.fn [.Name x ⟨0, 0, 0, 0⟩] [i] = true := by
    show (decide (c.N[i]? = some x) && ((c.sc.names.lookup x == some .local || (c.sc.names.lookup x == some .cell && c.fn x)) && true)) = true
    rw [h1, h2]
    rfl
  rw [o.eN, o.es]
  obtain ⟨a, b⟩ := name_ok h2
  exact ⟨of_decide_eq_true h1, a, b.elim (fun z => .inl (o.fn x z)) .inr⟩
theorem two_ts {c : Ct} {s : LS} {t t2 : Expr} {ts : List Expr} {v : Expr} {p : Pos} (h : chkS c s (.Assign (t :: t2 :: ts) v p) = true) : False := by
  cases s with
  | asg tg e =>
    cases tg <;> cases t <;> exact absurd h Bool.false_ne_true
  | par i j es =>
    cases t with
    | Tuple ns _ _ =>
      rcases ns with _ | ⟨n1, ns⟩
      · exact absurd h Bool.false_ne_true
      · rcases ns with _ | ⟨n2, ns⟩
        · cases n1 <;> exact absurd h Bool.false_ne_true
        · cases n1 with
          | Name _ _ =>
            cases n2 with
            | Name _ _ => cases ns <;> exact absurd h Bool.false_ne_true
            | _ => exact absurd h Bool.false_ne_true
          | _ => exact absurd h Bool.false_ne_true
    | _ => exact absurd h Bool.false_ne_true
  | _ => cases t <;> exact absurd h Bool.false_ne_true
theorem asg_nm {c : Ct} {i : Nat} {e : LE} {st : Stmt} (h : chkS c (.asg (.nm i) e) st = true) : False := by
  cases st <;> exact absurd h Bool.false_ne_true
theorem inv_par {c : Ct} {i j : Nat} {es : LAs} {st : Stmt} (h : chkS c (.par i j es) st = true) : ∃ x px y py kt pt a b k2 p2 pos, st = .Assign [.Tuple [.Name x px, .Name y py] kt pt] (.Tuple [a, b] k2 p2) pos ∧ (decide (c.N[i]? = some x) && (decide (c.N[j]? = some y) && (decide (i ≠ j) && (c.sc.names.lookup x == some .local && (c.sc.names.lookup y == some .local && (decide (px.line = py.line) && (decide (x ≠ y) && (swYes c.sc [.Name x px, .Name y py] [a, b] && chkA c es [a, b])))))))) = true := by
  cases st with
  | Assign ts v p =>
    rcases ts with _ | ⟨t, _ | ⟨t2, ts⟩⟩
    · exact absurd h Bool.false_ne_true
    · cases t with
      | Tuple ns kt pt =>
        rcases ns with _ | ⟨n1, _ | ⟨n2, _ | ⟨n3, ns⟩⟩⟩
        · exact absurd h Bool.false_ne_true
        · cases n1 <;> exact absurd h Bool.false_ne_true
        · cases n1 with
          | Name x px =>
            cases n2 with
            | Name y py =>
              cases v with
              | Tuple vs k2 p2 =>
                rcases vs with _ | ⟨a, _ | ⟨b, _ | ⟨d, vs⟩⟩⟩
                · exact absurd h Bool.false_ne_true
                · exact absurd h Bool.false_ne_true
                · exact ⟨_, _, _, _, _, _, _, _, _, _, _, rfl, h⟩
                · exact absurd h Bool.false_ne_true
              | _ => exact absurd h Bool.false_ne_true
            | _ => exact absurd h Bool.false_ne_true
          | _ => exact absurd h Bool.false_ne_true
        · cases n1 with
          | Name x px =>
            cases n2 <;> exact absurd h Bool.false_ne_true
          | _ => exact absurd h Bool.false_ne_true
      | _ => exact absurd h Bool.false_ne_true
    · exact (two_ts h).elim
  | _ => exact absurd h Bool.false_ne_true
theorem inv_rai {c : Ct} {x : Str} {st : Stmt} (h : chkS c (.rai x) st = true) : ∃ m j p p2 p3 pos, st = .Raise (some (.Call (.Name x p) [.Constant (.str m) j p2] [] p3)) none pos ∧ (glB c.sc x && (c.T.exc x && plainN x)) = true := by
  cases st with
  | Raise e f pos =>
    cases e with
    | none => exact absurd h Bool.false_ne_true
    | some e =>
      cases e with
      | Call g vs ks p3 =>
        cases g with
        | Name y p =>
          rcases vs with _ | ⟨v, _ | ⟨v2, vs⟩⟩
          · exact absurd h Bool.false_ne_true
          · cases v with
            | Constant q j p2 =>
              cases q with
              | str m =>
                cases ks with
                | nil =>
                  cases f with
                  | none =>
                    obtain ⟨h1, h2⟩ := ba2 h
                    have := of_decide_eq_true h1
                    subst this
                    exact ⟨_, _, _, _, _, _, rfl, h2⟩
                  | some _ => exact absurd h Bool.false_ne_true
                | cons _ _ => exact absurd h Bool.false_ne_true
              | _ => exact absurd h Bool.false_ne_true
            | _ => exact absurd h Bool.false_ne_true
          · cases v with
            | Constant q j p2 => cases q <;> exact absurd h Bool.false_ne_true
            | _ => exact absurd h Bool.false_ne_true
        | _ => exact absurd h Bool.false_ne_true
      | _ => exact absurd h Bool.false_ne_true
  | _ => exact absurd h Bool.false_ne_true
mutual
theorem sndS : ∀ (s : LS) (c : Ct) (st : Stmt), chkS c s st = true → ∀ (X : Cx) (E : XK), OkC X c cf K mg k → Takes X (WS E) → PassesOwn (model X.prog X.w) X.A X.env X.xe → PS X st (TSv K mg E (exS cf s))
  | .set i e, c, st, h, X, E, o, tk, hp => by
    cases st with
    | Assign ts v p =>
      rcases ts with _ | ⟨t, _ | ⟨t2, ts⟩⟩
      · exact absurd h Bool.false_ne_true
      · cases t with
        | Name x py =>
          obtain ⟨h1, h2⟩ := ba2 h
          obtain ⟨h2, h3⟩ := ba2 h2
          obtain ⟨n1, n2, n3⟩ := name_loc o h1
          refine sS_set o.nd n1 n2 ((sndE e c v h3).1 X _ o tk) ?_ n3
          rcases Bool.or_eq_true_iff.mp h2 with h2 | h2
          · exact lcn h2
          · cases v with
            | ListComp elt gs scope p =>
              exact swaps_cell (by
                rw [o.es]
                have h2' : (!(c.sc.names.lookup x == some .local)) = true := h2
                intro z
                rw [z] at h2'
                exact absurd h2' (by decide))
            | _ => exact absurd h2 Bool.false_ne_true
        | _ => exact absurd h Bool.false_ne_true
      · exact (two_ts h).elim
    | _ => exact absurd h Bool.false_ne_true
  | .setLc i e, c, st, h, X, E, o, tk, hp => by
    cases st with
    | Assign ts v p =>
      rcases ts with _ | ⟨t, _ | ⟨t2, ts⟩⟩
      · exact absurd h Bool.false_ne_true
      · cases t with
        | Name x py =>
          cases v with
          | ListComp elt gs scope pp =>
            obtain ⟨h1, h2⟩ := ba2 h
            obtain ⟨h2, h3⟩ := ba2 h2
            obtain ⟨h3, h4⟩ := ba2 h3
            obtain ⟨h4, h5⟩ := ba2 h4
            have hy : X.env.scope.names.lookup x = some .local := by rw [o.es]; exact eq_of_beq h2
            have hsw : swapsWith (.ListComp elt gs scope pp) (some (.Name x py)) p.line X.env = pure true :=
              sw_true (by rw [o.es]; exact o.kind) hy h3 (by simpa using h4)
            have hi : X.N[i]? = some x := by rw [o.eN]; exact of_decide_eq_true h1
            cases e with
            | lc vs s tg co e =>
              obtain ⟨elt', t, it, ifs, scope', p', hh, u1, u2, u3, u4, u5, u6, u7⟩ := inv_lc h5
              cases hh
              have g1 := sndI (cf := cf) (K := K) (mg := mg) (k := k) s c it t u4
              have g2 := sndF (cf := cf) (K := K) (mg := mg) (k := k) co (c.blk scope) ifs u6
              have g3 := sndE (cf := cf) (K := K) (mg := mg) (k := k) e (c.blk scope) elt u7
              have ok : BlkOk X.N X.env.scope scope (ownOf c.N vs) := by
                rw [o.eN, o.es]
                exact blkOk_by u1
              exact sS_setLc (own_map vs) (sub_of u2) o.calm o.nd hi hy hsw (g1 X _ o tk) ok (fun s H C cl fp => sndT (o.blk ok.kind s H C cl fp) u5) (fun s H C cl fp => g2 _ (o.blk ok.kind s H C cl fp)) (fun s H C cl fp => g3.1 _ _ (o.blk ok.kind s H C cl fp) takes0) (fold_of2 u3 _)
            | lc2 vs vs1 s tg co s1 tg1 co1 e =>
              obtain ⟨elt', t, it, ifs, t1, it1, ifs1, scope', p', hh, u1, u2, u3, u4, u5, u6, u7, u8, u9, u10, u11, u12, u13⟩ := inv_lc2 h5
              cases hh
              have g1 := sndI (cf := cf) (K := K) (mg := mg) (k := k) s c it t u4
              have g2 := sndF (cf := cf) (K := K) (mg := mg) (k := k) co (c.blk scope) ifs u6
              have g3 := sndI (cf := cf) (K := K) (mg := mg) (k := k) s1 (c.blk scope) it1 t1 u10
              have g4 := sndF (cf := cf) (K := K) (mg := mg) (k := k) co1 (c.blk scope) ifs1 u12
              have g5 := sndE (cf := cf) (K := K) (mg := mg) (k := k) e (c.blk scope) elt u13
              have ok : BlkOk X.N X.env.scope scope (ownOf c.N vs) := by
                rw [o.eN, o.es]
                exact blkOk_by u1
              exact sS_setLc2 (own_map vs) (by rw [← own_map (c := c) vs]; exact sub_of u7) (sub_of u2) (sub_of u8) o.calm o.nd hi hy hsw (g1 X _ o tk) ok (fun s H C cl fp => sndT (o.blk ok.kind s H C cl fp) u5) (fun s H C cl fp => g2 _ (o.blk ok.kind s H C cl fp))
                (fun s H C cl fp => g3 _ _ (o.blk ok.kind s H C cl fp) takes0) (fun s H C cl fp => sndT (o.blk ok.kind s H C cl fp) u11) (fun s H C cl fp => g4 _ (o.blk ok.kind s H C cl fp)) (fun s H C cl fp => g5.1 _ _ (o.blk ok.kind s H C cl fp) takes0) (fold_of2 u3 _) (fold_of2 u9)
            | _ => exact absurd h5 (by simp [chkE])
          | _ => exact absurd h Bool.false_ne_true
        | _ => exact absurd h Bool.false_ne_true
      · exact (two_ts h).elim
    | _ => exact absurd h Bool.false_ne_true
  | .asg (.nm _) e, c, st, h, X, E, o, tk, hp => by
    exact (asg_nm h).elim
  | .asg (.tp is) e, c, st, h, X, E, o, tk, hp => by
    cases st with
    | Assign ts v p =>
      rcases ts with _ | ⟨t, _ | ⟨t2, ts⟩⟩
      · exact absurd h Bool.false_ne_true
      · cases t with
        | Tuple ns kt pt =>
          obtain ⟨h1, h2⟩ := ba2 h
          obtain ⟨h2, h3⟩ := ba2 h2
          obtain ⟨h3, h4⟩ := ba2 h3
          exact sS_asgT o.eK o.calm o.nd o.fn (by rw [o.eN, o.es]; exact h1) ((sndE e c v h4).1 X _ o tk) (ss_tup o.es o.kind h3) sw_tup
        | _ => exact absurd h Bool.false_ne_true
      · exact (two_ts h).elim
    | _ => exact absurd h Bool.false_ne_true
  | .par i j es, c, st, h, X, E, o, tk, hp => by
    obtain ⟨x, px, y, py, kt, pt, a, b, k2, p2, pos, rfl, h⟩ := inv_par h
    obtain ⟨h1, h⟩ := ba2 h
    obtain ⟨h2, h⟩ := ba2 h
    obtain ⟨h3, h⟩ := ba2 h
    obtain ⟨h4, h⟩ := ba2 h
    obtain ⟨h5, h⟩ := ba2 h
    obtain ⟨h6, h⟩ := ba2 h
    obtain ⟨h7, h⟩ := ba2 h
    obtain ⟨h8, h⟩ := ba2 h
    have g := sndA (cf := cf) (K := K) (mg := mg) (k := k) es c [a, b] h
    have e4 := h4
    have e5 := h5
    refine sS_par o.calm o.nd (by rw [o.eN]; exact of_decide_eq_true h1) (by rw [o.eN]; exact of_decide_eq_true h2) (of_decide_eq_true h3) (by rw [o.es]; exact eq_of_beq h4) (by rw [o.es]; exact eq_of_beq h5) (g.1 X _ o tk) ?_
    have hh := swapped_yes (env := X.env) (k := kt) (k2 := k2) (p := pt) (p2 := p2) (ts := [.Name x px, .Name y py]) (vs := [a, b]) (by rw [o.es]; exact o.kind) (List.all_eq_true.mpr fun z hz => by rw [g.2 z hz]; rfl) (by rw [o.es]; exact h8)
    rw [hh]
    have en : swNames X.env.scope (headLine [.Name x px, .Name y py]) [.Name x px, .Name y py] = [x, y] := by
      rw [o.es]
      have e6 := of_decide_eq_true h6
      simp only [swNames, headLine, List.head?, Option.map, Option.getD, Expr.pos, List.filterMap, e4, e5, e6]
      simp
    rw [en]
  | .stI a i e, c, st, h, X, E, o, tk, hp => by
    cases st with
    | Assign ts v p =>
      rcases ts with _ | ⟨t, _ | ⟨t2, ts⟩⟩
      · exact absurd h Bool.false_ne_true
      · cases t with
        | Subscript o' i' p' =>
          obtain ⟨h1, h2⟩ := ba2 h
          obtain ⟨h2, h3⟩ := ba2 h2
          obtain ⟨h3, h4⟩ := ba2 h3
          exact sS_stI ((sndE e c v h4).1 X _ o tk) ((sndE a c o' h2).1 X _ o tk) ((sndE i c i' h3).1 X _ o tk) h1 sw_sub ss_sub
        | _ => exact absurd h Bool.false_ne_true
      · exact (two_ts h).elim
    | _ => exact absurd h Bool.false_ne_true
  | .ex e, c, st, h, X, E, o, tk, hp => by
    cases st with
    | Expr v p =>
      obtain ⟨h1, h2⟩ := ba2 h
      exact sS_expr ((sndE e c v h2).1 X _ o tk) (lcn h1)
    | _ => exact absurd h Bool.false_ne_true
  | .ret e, c, st, h, X, E, o, tk, hp => by
    cases st with
    | Return v p =>
      cases v with
      | some v => exact sS_ret ((sndE e c v h).1 X _ o tk)
      | none => exact absurd h Bool.false_ne_true
    | _ => exact absurd h Bool.false_ne_true
  | .ifs t a b, c, st, h, X, E, o, tk, hp => by
    cases st with
    | If t' a' b' p =>
      obtain ⟨h1, h2⟩ := ba2 h
      obtain ⟨h2, h3⟩ := ba2 h2
      obtain ⟨h3, h4⟩ := ba2 h3
      exact sS_if ((sndE t c t' h2).2 h1 X _ o tk) (sndBk a c a' h3 X E o tk hp) (sndBk b c b' h4 X E o tk hp)
    | _ => exact absurd h Bool.false_ne_true
  | .whl t b, c, st, h, X, E, o, tk, hp => by
    cases st with
    | While t' b' e' p =>
      cases e' with
      | nil =>
        obtain ⟨h1, h2⟩ := ba2 h
        obtain ⟨h2, h3⟩ := ba2 h2
        exact sS_while hp ((sndE t c t' h2).2 h1 X _ o tk) (sndBk b c b' h3 X E o tk hp)
      | cons _ _ => exact absurd h Bool.false_ne_true
    | _ => exact absurd h Bool.false_ne_true
  | .for_ s tg b, c, st, h, X, E, o, tk, hp => by
    cases st with
    | For t it b' e' p =>
      cases e' with
      | nil =>
        obtain ⟨h1, h2⟩ := ba2 h
        obtain ⟨h2, h3⟩ := ba2 h2
        obtain ⟨h3, h4⟩ := ba2 h3
        exact sS_for hp o.calm (sndI s c it t h2 X _ o tk) (sndT o h3) (sndBk b c b' h4 X E o tk hp) (fold_of2 h1 _)
      | cons _ _ => exact absurd h Bool.false_ne_true
    | _ => exact absurd h Bool.false_ne_true
  | .rai x, c, st, h, X, E, o, tk, hp => by
    obtain ⟨m, j, p, p2, p3, pos, rfl, hh⟩ := inv_rai h
    obtain ⟨u1, u2⟩ := ba2 hh
    obtain ⟨u2, u3⟩ := ba2 u2
    exact sS_raise o.eK o.em o.calm tk (o.exc x u2) (gl_of o u1) (plain_of u3).1
  | .pass, c, st, h, X, E, o, tk, hp => by
    cases st with
    | Pass p => exact sS_pass
    | _ => exact absurd h Bool.false_ne_true
theorem sndBk : ∀ (b : LB) (c : Ct) (sts : List Stmt), chkB c b sts = true → ∀ (X : Cx) (E : XK), OkC X c cf K mg k → Takes X (WS E) → PassesOwn (model X.prog X.w) X.A X.env X.xe → PSs X sts (TSv K mg E (exB cf b))
  | .nil, c, [], h, X, E, o, tk, hp => sS_nil
  | .nil, c, _ :: _, h, X, E, o, tk, hp => absurd h Bool.false_ne_true
  | .cons s b, c, [], h, X, E, o, tk, hp => absurd h Bool.false_ne_true
  | .cons s b, c, st :: sts, h, X, E, o, tk, hp => by
    obtain ⟨h1, h2⟩ := ba2 (show (chkS c s st && chkB c b sts) = true from h)
    exact sS_cons (sndS s c st h1 X E o tk hp) (sndBk b c sts h2 X E o tk hp)
end
end
end LC

set_option maxHeartbeats 2000000
/-! LC19: defs of the text, the whole row, the law's end. -/
namespace LC
open PySem PySem.Spec PyProof.Rows L2
/-! ### binding -/
theorem zip_lookup {us : List Value} : ∀ {ps : List Str} {n : Str}, n ∈ ps → us.length = ps.length → ((ps.zip us).lookup n).isSome = true := by
  induction us with
  | nil => intro ps n h hl; cases ps with
    | nil => cases h
    | cons _ _ => cases hl
  | cons u us ih =>
    intro ps n h hl
    cases ps with
    | nil => cases h
    | cons p ps =>
      rw [List.zip_cons_cons, List.lookup_cons]
      by_cases e : n == p
      · rw [e]; rfl
      · have e' : (n == p) = false := by simpa using e
        rw [e']
        refine ih ?_ (by simpa using hl)
        rcases List.mem_cons.mp h with rfl | h
        · simp at e'
        · exact h
theorem zip_back : ∀ (ps : List Str) (us : List Value) (l : List (Str × Value)), ps.Nodup → us.length = ps.length → (∀ n, n ∈ ps → l.lookup n = none) → ps.filterMap (fun n => ((l ++ ps.zip us).lookup n).map (n, ·)) = ps.zip us := by
  intro ps
  induction ps with
  | nil => intro us l _ _ _; rfl
  | cons p ps ih =>
    intro us l nd hl hn
    cases us with
    | nil => cases hl
    | cons u us =>
      have h1 : (l ++ (p :: ps).zip (u :: us)).lookup p = some u := by
        rw [List.lookup_append, hn p List.mem_cons_self, List.zip_cons_cons, List.lookup_cons_self]
        rfl
      rw [List.filterMap_cons, h1]
      show (p, u) :: _ = (p, u) :: _
      congr 1
      have h2 := ih us (l ++ [(p, u)]) (List.nodup_cons.mp nd).2 (by simpa using hl) fun n h => by
        rw [List.lookup_append, hn n (List.mem_cons_of_mem _ h)]
        have hne : (n == p) = false := by
          rw [beq_eq_false_iff_ne]
          rintro rfl
          exact (List.nodup_cons.mp nd).1 h
        simp [List.lookup_cons, hne]
      rw [List.append_assoc] at h2
      exact h2
theorem bind_plain {x qual : Str} {as : List Arg} {body : List Stmt} {scope : Scope} {kV doc pm : Value} {an : Option Addr} {cdv ct : Value} {us : List Value} (nd : (as.map (·.arg)).Nodup) (hl : us.length = (as.map (·.arg)).length) :
    bindArgs (PySem.W.fnOf x qual ⟨[], as, none, [], [], none, []⟩ body scope .none kV doc pm an cdv ct) ⟨us, []⟩ = pure ((as.map (·.arg)).zip us) := by
  have e1 : seqItems? .none = pure none := rfl
  unfold bindArgs
  simp only [PySem.W.fnOf, List.map_nil, List.nil_append, e1, pure_bind, Option.getD_none, List.length_nil, List.drop_nil, List.forIn_nil, List.append_nil]
  generalize as.map (·.arg) = ps at nd hl
  have h3 : ps.filterMap (fun n => ((ps.zip us).lookup n).map (n, ·)) = ps.zip us := zip_back ps us [] nd hl (fun _ _ => rfl)
  have h4 : ps.filter (fun n => ((ps.zip us).lookup n).isNone) = [] := by
    rw [List.filter_eq_nil_iff]
    intro n hn
    have := zip_lookup (us := us) hn hl
    rw [Option.isSome_iff_ne_none] at this
    simpa using this
  have h5 : ¬ (us.length > ps.length) := by omega
  simp [h4, h5, h3, hl]
/-! ### the text's defs -/
structure Fn where
  np : Nat
  ns : Nat
  body : LB
def endF : Fl → M D
  | .nx _ => M.pure .non
  | .rt d => M.pure d
def runF (fs : Str → Option Fn) : Nat → Str → List D → M D
  | 0, _, _ => M.bad
  | k + 1, f, ds => match fs f with
    | none => M.bad
    | some F => M.bind (exB (runF fs k) F.body (ds.map some ++ List.replicate (F.ns - ds.length) none)) endF
def chkFn (T : Tb) (F : Fn) (N : List Str) (p : Arguments) (body : List Stmt) (sc : Scope) : Bool :=
  (p.posonlyargs.isEmpty && (p.vararg.isNone && (p.kwonlyargs.isEmpty && (p.kw_defaults.isEmpty && (p.kwarg.isNone && p.defaults.isEmpty))))) && (p.args.length == F.np && (N.length == F.ns && (C8.scC N (p.args.map (·.arg)) sc && chkB ⟨N, sc, fun _ => true, T⟩ F.body body)))
structure En where
  x : Str
  F : Fn
  N : List Str
  i : Nat
def fsOf (t : List En) (x : Str) : Option Fn := (t.find? fun e => e.x == x).map (·.F)
def ddOf (top : Nat → Stmt) (e : En) : He.DefD := ⟨(e.x, none), e.x, e.x, defArgs (top e.i), defBody (top e.i), defScope (top e.i), [], []⟩
def tbOf (t : List En) (frees excs : List Str) : Tb := ⟨fun x => (fsOf t x).map (·.np), fun x => frees.contains x, fun x => t.any fun e => e.x == x, fun x => excs.contains x⟩
def faOf (t : List En) (frees excs : List Str) : List He.Fa := t.map (fun e => .glo e.x) ++ (frees.map .free ++ (excs.map .glo ++ excs.map .exc))
def chkAll (top : Nat → Stmt) (t : List En) (frees excs : List Str) : Bool := t.all fun e => chkFn (tbOf t frees excs) e.F e.N (defArgs (top e.i)) (defBody (top e.i)) (defScope (top e.i))
structure FnF (P : Program) (w : World) (K : PySem.W.Frag) (mg : Str → Option Value) (base : Heap) (k : Nat) (f : Str) (np : Nat) (cf : List D → M D) (a : Addr) (fd : FuncData) (ps : List Str) : Prop where
  at_ : mg f = some (.ref a)
  kp : PySem.W.keepIn K (.ref a) = true
  bnd : ∀ (s : Shared) (us : List Value), us.length = ps.length → BindsTo s fd ⟨us, []⟩ (ps.zip us)
  len : ps.length = np
  ok : FnOk P w K mg base (L2.CX P w) k a fd ps (spF K mg np cf)
theorem FnF.to {P : Program} {w : World} {K : PySem.W.Frag} {mg : Str → Option Value} {base : Heap} {k np : Nat} {f : Str} {cf : List D → M D} {a : Addr} {fd : FuncData} {ps : List Str} (h : FnF P w K mg base k f np cf a fd ps) : FnAt P w K mg base k f np cf :=
  ⟨a, fd, ps, h.at_, h.kp, fun s us _ hl => by
    rw [List.append_nil] at hl ⊢
    exact h.bnd s us hl, h.len, h.ok⟩
/-- what the top leaves of the row's names -/
structure Names (K : PySem.W.Frag) (mg : Str → Option Value) (T : Tb) : Prop where
  free : ∀ x, T.free x = true → mg x = none
  glo : ∀ x, T.glo x = true → ∃ a, mg x = some (.ref a)
  exc : ∀ x, T.exc x = true → ExcF K mg x
section
variable {P : Program} {w : World} {K : PySem.W.Frag} {mg : Str → Option Value} {base : Heap} {fs : Str → Option Fn} {T : Tb} {x : Str} {F : Fn} {N : List Str} {p : Arguments} {body : List Stmt} {sc : Scope} {a : Addr} {fd : FuncData} {k : Nat}
theorem envR_start {A : At} {ds : List D} {vs : List V} (r : RelL A ds vs) (hl : ds.length = vs.length) (N : List Str) : EnvR A (ds.map some ++ List.replicate (N.length - ds.length) none) (L2.start N vs) := by
  refine ⟨by simp [L2.start, hl], fun i d h => ?_⟩
  by_cases hi : i < ds.length
  · rw [List.getElem?_append_left (by simpa using hi), List.getElem?_map] at h
    cases e : ds[i]? with
    | none => rw [e] at h; cases h
    | some d' =>
      rw [e] at h
      cases h
      obtain ⟨v, h1, h2⟩ := r.get e
      exact ⟨v, by unfold L2.start; rw [List.getElem?_append_left (by simpa [← hl] using hi), List.getElem?_map, h1]; rfl, h2⟩
  · rw [List.getElem?_append_right (by simpa using hi), List.getElem?_replicate] at h
    split at h <;> cases h
theorem fn_dat (FD : FunD K x x p body sc [] [] a fd) (hc : chkFn T F N p body sc = true) : (∀ (s : Shared) (us : List Value), us.length = (p.args.map (·.arg)).length → BindsTo s fd ⟨us, []⟩ ((p.args.map (·.arg)).zip us)) ∧ (p.args.map (·.arg)).length = F.np := by
  obtain ⟨h1, h2⟩ := ba2 hc
  obtain ⟨h2, h3⟩ := ba2 h2
  obtain ⟨h3, h4⟩ := ba2 h3
  obtain ⟨h4, h5⟩ := ba2 h4
  have S : FnScope N (p.args.map (·.arg)) sc := C8.fnScope_by h4
  have hp : p = ⟨[], p.args, none, [], [], none, []⟩ := by
    obtain ⟨t1, u⟩ := ba2 h1
    obtain ⟨t2, u⟩ := ba2 u
    obtain ⟨t3, u⟩ := ba2 u
    obtain ⟨t4, u⟩ := ba2 u
    obtain ⟨t5, t6⟩ := ba2 u
    rcases p with ⟨q1, q2, q3, q4, q5, q6, q7⟩
    have t1 : q1 = [] := List.isEmpty_iff.mp t1
    have t2 : q3 = none := Option.isNone_iff_eq_none.mp t2
    have t3 : q4 = [] := List.isEmpty_iff.mp t3
    have t4 : q5 = [] := List.isEmpty_iff.mp t4
    have t5 : q6 = none := Option.isNone_iff_eq_none.mp t5
    have t6 : q7 = [] := List.isEmpty_iff.mp t6
    rw [t1, t2, t3, t4, t5, t6]
  have hnp : p.args.length = F.np := eq_of_beq h2
  have nd : (p.args.map (·.arg)).Nodup := by rw [← S.pre]; exact S.nd.sublist (List.take_sublist _ _)
  refine ⟨fun s us hl => FunD.bindsA FD (ps := p.args.map (·.arg)) (fun kV doc pm an cdv ct us hl => ?_) s us hl, by simpa using hnp⟩
  rw [hp]
  exact bind_plain nd hl
theorem fn_step (nm : Names K mg T) (ef : fs x = some F) (hm : mg x = some (.ref a)) (FD : FunD K x x p body sc [] [] a fd) (hc : chkFn T F N p body sc = true) (fns : ∀ f n, T.ar f = some n → FnAt P w K mg base (k + 1) f n (runF fs k f)) :
    FnF P w K mg base (k + 2) x F.np (runF fs (k + 1) x) a fd (p.args.map (·.arg)) := by
  obtain ⟨h1, h2⟩ := ba2 hc
  obtain ⟨h2, h3⟩ := ba2 h2
  obtain ⟨h3, h4⟩ := ba2 h3
  obtain ⟨h4, h5⟩ := ba2 h4
  have S : FnScope N (p.args.map (·.arg)) sc := C8.fnScope_by h4
  have hnp : p.args.length = F.np := eq_of_beq h2
  have hns : N.length = F.ns := eq_of_beq h3
  refine ⟨hm, FD.kp, (fn_dat FD hc).1, (fn_dat FD hc).2, ?_⟩
  · refine FD.ok S (fun vs H Q E h => by rw [h.1]; simpa using hnp.symm) fun cdv A outer s H vs Q E hr hsp => ?_
    refine ⟨TSv K mg E (exB (runF fs k) F.body), ?_, ?_⟩
    · refine sndBk (k := k) F.body ⟨N, sc, fun _ => true, T⟩ body h5 _ E ?_ (takes_of rfl rfl rfl rfl) (passes_of rfl)
      exact ⟨rfl, rfl, S.kind, fun _ _ => rfl, rfl, rfl, S.nd, rfl, hr, fns, nm.free, nm.glo, nm.exc⟩
    · obtain ⟨hl, B, ds, St, eK, em, eH, g, r, h⟩ := hsp
      refine ⟨B, _, St, eK, em, eH, g, envR_start r r.len.symm N, ?_⟩
      have hl2 : ds.length = vs.length := r.len.symm
      have h : Post Rel B (runF fs (k + 1) x ds St) Q E := h
      unfold runF at h
      rw [ef] at h
      have h : Post Rel B ((exB (runF fs k) F.body (ds.map some ++ List.replicate (F.ns - ds.length) none) St).bind endF) Q E := h
      rw [hns]
      cases e : exB (runF fs k) F.body (ds.map some ++ List.replicate (F.ns - ds.length) none) St with
      | ok f S1 =>
        rw [e] at h
        cases f with
        | nx ρ => exact fun σ' C x1 g1 _ => h .non C x1 g1 rfl
        | rt d => exact fun v C x1 g1 r1 => h v C x1 g1 r1
      | exc y S1 => rw [e] at h; exact h
      | bad => rw [e] at h; exact h
end
section
variable {P : Program} {w : World} {K : PySem.W.Frag} {mg : Str → Option Value} {base : Heap} {top : Nat → Stmt} {t : List En} {frees excs : List Str}
theorem fs_en {x : Str} {F : Fn} (h : fsOf t x = some F) : ∃ e ∈ t, e.x = x ∧ e.F = F := by
  obtain ⟨e, h1, rfl⟩ := Option.map_eq_some_iff.mp h
  refine ⟨e, List.mem_of_find?_eq_some h1, ?_, rfl⟩
  have := List.find?_some h1
  exact eq_of_beq this
theorem names_of {fn : List He.DefD} {h : Heap} (c : He.SaysD (faOf t frees excs) fn K) (KX : K.In h) (G : h.Ns mainGlobals mg) : Names K mg (tbOf t frees excs) where
  free := fun x hx => by
    have hx : x ∈ frees := by simpa [tbOf] using hx
    exact He.free_ok KX G (c.facts (f := .free x) (List.mem_append_right _ (List.mem_append_left _ (List.mem_map_of_mem hx))))
  glo := fun x hx => by
    obtain ⟨e, he, hh⟩ := List.any_eq_true.mp (show (t.any fun e => e.x == x) = true from hx)
    have := eq_of_beq hh
    subst this
    exact ⟨_, He.glo_ok KX G (c.facts (f := .glo e.x) (List.mem_append_left _ (List.mem_map_of_mem (f := fun e : En => He.Fa.glo e.x) he)))⟩
  exc := fun x hx => by
    have hx : x ∈ excs := by simpa [tbOf] using hx
    have h1 := He.glo_ok KX G (c.facts (f := .glo x) (List.mem_append_right _ (List.mem_append_right _ (List.mem_append_left _ (List.mem_map_of_mem hx)))))
    have h2 := He.exc_ok (c.facts (f := .exc x) (List.mem_append_right _ (List.mem_append_right _ (List.mem_append_right _ (List.mem_map_of_mem hx)))))
    exact ⟨_, h1, h2⟩
theorem row_ok {h : Heap} (c : He.SaysD (faOf t frees excs) (t.map (ddOf top)) K) (KX : K.In h) (G : h.Ns mainGlobals mg) (hc : chkAll top t frees excs = true) :
    ∀ (k : Nat) (x : Str) (F : Fn), fsOf t x = some F → ∃ fd ps, (∃ e ∈ t, e.x = x ∧ ps = (defArgs (top e.i)).args.map (·.arg)) ∧ ∀ base, FnF P w K mg base (k + 1) x F.np (runF (fsOf t) k x) (He.ga K x) fd ps := by
  have base_ : ∀ (x : Str) (F : Fn), fsOf t x = some F → ∃ (e : En) (fd : FuncData), e ∈ t ∧ e.x = x ∧ e.F = F ∧ chkFn (tbOf t frees excs) e.F e.N (defArgs (top e.i)) (defBody (top e.i)) (defScope (top e.i)) = true ∧ mg x = some (.ref (He.ga K x)) ∧ FunD K x x (defArgs (top e.i)) (defBody (top e.i)) (defScope (top e.i)) [] [] (He.ga K x) fd := by
    intro x F hx
    obtain ⟨e, he, rfl, rfl⟩ := fs_en hx
    obtain ⟨fd, FD⟩ := c.defs (d := ddOf top e) (List.mem_map_of_mem he)
    have h1 := He.glo_ok KX G (c.facts (f := .glo e.x) (List.mem_append_left _ (List.mem_map_of_mem (f := fun e : En => He.Fa.glo e.x) he)))
    exact ⟨e, fd, he, rfl, rfl, List.all_eq_true.mp hc e he, h1, FD⟩
  have nm := names_of c KX G
  intro k
  induction k with
  | zero =>
    intro x F hx
    obtain ⟨e, fd, he, rfl, rfl, h1, h2, FD⟩ := base_ x F hx
    refine ⟨fd, _, ⟨e, he, rfl, rfl⟩, fun base => ⟨h2, FD.kp, (fn_dat FD h1).1, (fn_dat FD h1).2, ⟨fun vs H Q E q => ?_, fun A outer s H args us vs Q E _ _ _ _ q => ?_⟩⟩⟩
    · obtain ⟨_, _, _, _, _, _, _, _, _, q⟩ := q
      exact q.elim
    · obtain ⟨_, _, _, _, _, _, _, _, _, q⟩ := q
      exact q.elim
  | succ k ih =>
    intro x F hx
    obtain ⟨e, fd, he, rfl, rfl, h1, h2, FD⟩ := base_ x F hx
    refine ⟨fd, _, ⟨e, he, rfl, rfl⟩, fun base => fn_step nm hx h2 FD h1 fun f n hf => ?_⟩
    obtain ⟨F', hF', rfl⟩ := Option.map_eq_some_iff.mp (show (fsOf t f).map (·.np) = some n from hf)
    obtain ⟨fd', ps', _, g⟩ := ih f F' hF'
    exact (g base).to
end
/-! ### the law's end -/
theorem walk_end {l : PySem.W.OpenLaw} {n : Nat} {q : Program} {loose : List Str} {XP : (Str → Option Value) → Heap → Prop} {YP : World → Heap → Prop} {d : DefRec} {top : Nat → Stmt} {t : List En} {frees excs : List Str} {x : Str} {F : Fn} {k : Nat}
    (hn : l.most = some n) (hn2 : n ≤ sizeLine) (hdf : d.params.defaults = []) (hr : Room (k + 1) callerA) (hx : d.name = x) (hF : fsOf t x = some F) (hnp : F.np = 1)
    (hY : ∀ w h, YP w h → ∃ K : PySem.W.Frag, K.In h ∧ He.SaysD (faOf t frees excs) (t.map (ddOf top)) K)
    (hc : chkAll top t frees excs = true)
    (hlaw : ∀ ns : List Int, ns.length ≤ n → ∃ S, runF (fsOf t) k x [.lst (ns.map .int)] [] = .ok (.bl true) S) :
    PySem.W.WalkO q loose XP YP l.row.toRowW d [] (fun f vs => PySem.call f vs) := by
  refine Att.attach_call hn hdf fun w s₀ s₁ mg mb fa o pm cd doc a vs ns G Y ho hd hcd hmg hobj hints hlen hg => ?_
  obtain ⟨K, KX, c⟩ := hY _ _ Y
  subst hx
  obtain ⟨fd, ps, _, R1⟩ := row_ok (P := l.prog) (w := w) c KX G.T.g hc k d.name F hF
  have e := hmg.symm.trans (R1 s₁.heap).at_
  cases e
  have hl1 : ps.length = 1 := by rw [(R1 s₁.heap).len]; exact hnp
  match ps, hl1, R1 with
  | [y], _, R1 =>
    refine law_call (x := y) KX G.T.g G.T.b G.T.builtins G.T.nolimit hg hobj hints (Nat.le_trans hlen hn2) hr (CX := L2.CX l.prog w) (fun base _ _ => (R1 base).ok) (fun s u => (R1 s.heap).bnd s [u] rfl) (fun H hO hS => ?_) fun H e s' h => ?_
    · have hz : (ns.map LC.D.int).length ≤ sizeLine := by rw [List.length_map]; exact Nat.le_trans hlen hn2
      have hR : RelL ⟨K, mg, [], fun _ => False, H⟩ (ns.map LC.D.int) (ns.map V.int) := by
        clear hobj hints hlen hS hz
        induction ns with
        | nil => rfl
        | cons n ns ih => exact ⟨_, _, rfl, rfl, ih⟩
      have hrd : At.rd ⟨K, mg, [], fun _ => False, H⟩ a (ns.map V.int) := by
        rcases hS with hS | hS
        · exact .inl ⟨by simp, fun z => z, hS⟩
        · exact .inr hS
      have hG : Gd ⟨K, mg, [], fun _ => False, H⟩ [] := ⟨rfl, fun i j p h => (by cases h), fun n c p h => (by cases h), fun p h => (by cases h), fun p h => h.elim⟩
      refine ⟨by rw [hnp]; rfl, ⟨K, mg, [], fun _ => False, H⟩, [.lst (ns.map .int)], [], rfl, rfl, rfl, hG, ⟨_, _, rfl, ⟨_, _, rfl, hrd, hz, hR⟩, rfl⟩, ?_⟩
      obtain ⟨S, hS⟩ := hlaw ns hlen
      rw [hS]
      exact fun v B x1 g1 r1 => r1
    · obtain ⟨_, _, _, _, _, _, _, _, _, _, _, _, z⟩ := h
      exact z
end LC

set_option maxHeartbeats 2000000
/-! P1: plain laws of the evaluator: walks, numbers, tuples of numbers, their order. -/
namespace LC
open PySem PySem.Spec PyProof.Rows L2
/-! ### what a run ends with -/
def Wp {α : Type} (r : R α) (Q : α → Store → Prop) : Prop := match r with
  | .ok a S => Q a S
  | _ => False
theorem Wp.bind {α β : Type} {r : R α} {f : α → M β} {Q : β → Store → Prop} (h : Wp r fun a S => Wp (f a S) Q) : Wp (r.bind f) Q := by
  cases r with
  | ok a S => exact h
  | _ => exact h.elim
theorem Wp.mono {α : Type} {r : R α} {Q Q' : α → Store → Prop} (h : Wp r Q) (i : ∀ a S, Q a S → Q' a S) : Wp r Q' := by
  cases r with
  | ok a S => exact i a S h
  | _ => exact h.elim
theorem Wp.ok {α : Type} {a : α} {S : Store} {Q : α → Store → Prop} (h : Q a S) : Wp (.ok a S) Q := h
theorem Wp.get {α : Type} {r : R α} {Q : α → Store → Prop} (h : Wp r Q) : ∃ a S, r = .ok a S ∧ Q a S := by
  cases r with
  | ok a S => exact ⟨a, S, rfl, h⟩
  | _ => exact h.elim
theorem Wp.of {α : Type} {r : R α} {a : α} {S : Store} {Q : α → Store → Prop} (e : r = .ok a S) (h : Q a S) : Wp r Q := by
  rw [e]; exact h
theorem Wp.bindM {α β : Type} {m : M α} {f : α → M β} {S : Store} {Q : β → Store → Prop} (h : Wp (m S) fun a S => Wp (f a S) Q) : Wp (M.bind m f S) Q := Wp.bind h
theorem Wp.nox {α : Type} {r : R α} {Q : α → Store → Prop} (h : Wp r Q) : Wp r.nox Q := by
  cases r with
  | ok a S => exact h
  | _ => exact h.elim
/-! ### walks -/
theorem wp_walkGo {β : Type} {xs : List D} {body : β → D → M β} (I : Nat → β → Store → Prop) (hs : ∀ i d b S', xs[i]? = some d → I i b S' → Wp (body b d S') (fun b' S'' => I (i + 1) b' S'')) :
    ∀ (n i : Nat) (acc : β) (S : Store), i + n = xs.length + 1 → i ≤ xs.length → I i acc S → Wp (walkGo (.fix xs) body n i acc S) (fun b S' => I xs.length b S') := by
  intro n
  induction n with
  | zero =>
    intro i acc S h1 h0 h2
    omega
  | succ n ih =>
    intro i acc S h1 h0 h2
    show Wp (match srcAt (.fix xs) S i with
      | none => .bad
      | some none => .ok acc S
      | some (some d) => (body acc d S).bind fun acc' => walkGo (.fix xs) body n (i + 1) acc') _
    have e : srcAt (.fix xs) S i = some xs[i]? := rfl
    rw [e]
    cases q : xs[i]? with
    | none =>
      have hi := List.getElem?_eq_none_iff.mp q
      have : i = xs.length := by omega
      subst this
      exact h2
    | some d =>
      have hi := (List.getElem?_eq_some_iff.mp q).1
      refine Wp.bind ((hs i d acc S q h2).mono fun b S' h3 => ih (i + 1) b S' (by omega) (by omega) h3)
theorem wp_walkAll {β : Type} {xs : List D} {body : β → D → M β} {acc : β} {S : Store} (I : Nat → β → Store → Prop) (h0 : I 0 acc S) (hs : ∀ i d b S', xs[i]? = some d → I i b S' → Wp (body b d S') (fun b' S'' => I (i + 1) b' S'')) :
    Wp (walkAll (.fix xs) body acc S) (fun b S' => I xs.length b S') := by
  show Wp (walkGo (.fix xs) body (xs.length + 1) 0 acc S) _
  exact wp_walkGo I hs _ _ _ _ (by omega) (Nat.zero_le _) h0
theorem wp_forGo {xs : List D} {tg : LT} {body : Env → M Fl} (I : Nat → Env → Store → Prop) (Q : Fl → Store → Prop)
    (hs : ∀ i d ρ S', xs[i]? = some d → I i ρ S' → ∃ ρ1, asgT tg d ρ = some ρ1 ∧ Wp (body ρ1 S') (fun f S'' => match f with
      | .nx ρ' => I (i + 1) ρ' S''
      | .rt d => Q (.rt d) S''))
    (hq : ∀ ρ S, I xs.length ρ S → Q (.nx ρ) S) :
    ∀ (n i : Nat) (ρ : Env) (S : Store), i + n = xs.length + 1 → i ≤ xs.length → I i ρ S → Wp (forGo (.fix xs) tg body n i ρ S) Q := by
  intro n
  induction n with
  | zero =>
    intro i ρ S h1 h0 h2
    omega
  | succ n ih =>
    intro i ρ S h1 h0 h2
    show Wp (match srcAt (.fix xs) S i with
      | none => .bad
      | some none => .ok (.nx ρ) S
      | some (some d) => match asgT tg d ρ with
        | none => .bad
        | some ρ1 => (body ρ1 S).bind fun f => match f with
          | .nx ρ2 => forGo (.fix xs) tg body n (i + 1) ρ2
          | .rt d => M.pure (.rt d)) _
    have e : srcAt (.fix xs) S i = some xs[i]? := rfl
    rw [e]
    cases q : xs[i]? with
    | none =>
      have hi := List.getElem?_eq_none_iff.mp q
      have : i = xs.length := by omega
      subst this
      exact hq _ _ h2
    | some d =>
      have hi := (List.getElem?_eq_some_iff.mp q).1
      obtain ⟨ρ1, e1, h3⟩ := hs i d ρ S q h2
      simp only [e1]
      refine Wp.bind (h3.mono fun f S' h4 => ?_)
      cases f with
      | nx ρ' => exact ih (i + 1) ρ' S' (by omega) (by omega) h4
      | rt d => exact h4
/-- for, over a source that stands -/
theorem wp_for {es : Env → M Src} {tg : LT} {body : Env → M Fl} {ρ : Env} {S S1 : Store} {xs : List D} (he : es ρ S = .ok (.fix xs) S1) (I : Nat → Env → Store → Prop) (Q : Fl → Store → Prop) (h0 : I 0 ρ S1)
    (hs : ∀ i d ρ S', xs[i]? = some d → I i ρ S' → ∃ ρ1, asgT tg d ρ = some ρ1 ∧ Wp (body ρ1 S') (fun f S'' => match f with
      | .nx ρ' => I (i + 1) ρ' S''
      | .rt d => Q (.rt d) S''))
    (hq : ∀ ρ S, I xs.length ρ S → Q (.nx ρ) S) : Wp (xFor es tg body ρ S) Q := by
  show Wp ((es ρ S).bind fun s => fun S => forGo s tg body (srcFuel s S) 0 ρ S) Q
  rw [he]
  exact wp_forGo I Q hs hq _ _ _ _ (by show 0 + (xs.length + 1) = _; omega) (Nat.zero_le _) h0
/-- [e for ..], with a state: each turn adds at most one -/
theorem wp_lc {vs : List Nat} {es : Env → M Src} {tg : LT} {ec : Option (Env → M D)} {ee : Env → M D} {ρ : Env} {S S1 : Store} {xs : List D} (he : es ρ S = .ok (.fix xs) S1) (I : Nat → List D → Store → Prop) (h0 : I 0 [] S1)
    (hs : ∀ i d acc S', xs[i]? = some d → I i acc S' → ∃ ρ', asgT tg d (wipeE ρ vs) = some ρ' ∧ Wp (condM ec ρ' S') (fun t S'' => if t = true then Wp (ee ρ' S'') (fun y S3 => I (i + 1) (acc ++ [y]) S3) else I (i + 1) acc S'')) :
    Wp (lcM vs es tg ec ee ρ S) (fun d S' => ∃ ys, d = .lst ys ∧ I xs.length ys S') := by
  show Wp ((es ρ S).bind fun s => M.bind (walkAll s (lcBody vs tg ec ee ρ) []) fun ys => M.pure (LC.D.lst ys)) _
  rw [he]
  show Wp (M.bind (walkAll (.fix xs) (lcBody vs tg ec ee ρ) []) (fun ys => M.pure (LC.D.lst ys)) S1) _
  refine Wp.bindM ((wp_walkAll (xs := xs) I h0 fun i d acc S' hx hI => ?_).mono fun ys S' h => ⟨ys, rfl, h⟩)
  obtain ⟨ρ', e1, h1⟩ := hs i d acc S' hx hI
  unfold lcBody
  rw [e1]
  refine Wp.bind (Wp.nox (h1.mono fun t S'' h2 => ?_))
  cases t with
  | true => exact Wp.bind (Wp.nox (h2.mono fun y S3 h3 => h3))
  | false => exact h2
/-- the same where nothing changes -/
theorem lc_eq {α : Type} {vs : List Nat} {es : Env → M Src} {tg : LT} {ec : Option (Env → M D)} {ee : Env → M D} {ρ : Env} {S : Store} (l : List α) (f : α → D) (p : α → Bool) (g : α → D) (he : es ρ S = .ok (.fix (l.map f)) S)
    (hs : ∀ a ∈ l, ∃ ρ', asgT tg (f a) (wipeE ρ vs) = some ρ' ∧ condM ec ρ' S = .ok (p a) S ∧ (p a = true → ee ρ' S = .ok (g a) S)) : lcM vs es tg ec ee ρ S = .ok (.lst ((l.filter p).map g)) S := by
  have h := wp_lc (vs := vs) (tg := tg) (ec := ec) (ee := ee) he (fun i acc S' => S' = S ∧ acc = ((l.take i).filter p).map g) ⟨rfl, rfl⟩ (fun i d acc S' hx hI => by
    obtain ⟨rfl, rfl⟩ := hI
    rw [List.getElem?_map] at hx
    cases q : l[i]? with
    | none => rw [q] at hx; cases hx
    | some a =>
      rw [q] at hx
      cases hx
      obtain ⟨ρ', e1, e2, e3⟩ := hs a (List.mem_of_getElem? q)
      have et : l.take (i + 1) = l.take i ++ [a] := by rw [List.take_add_one, q]; rfl
      refine ⟨ρ', e1, Wp.of e2 ?_⟩
      cases hp : p a with
      | true =>
        rw [if_pos rfl]
        refine Wp.of (e3 hp) ⟨rfl, ?_⟩
        rw [et, List.filter_append, List.map_append]
        simp [hp]
      | false =>
        rw [if_neg (by decide)]
        refine ⟨rfl, ?_⟩
        rw [et, List.filter_append, List.map_append]
        simp [hp])
  obtain ⟨d, S', e, ys, rfl, rfl, rfl⟩ := h.get
  rw [e, List.length_map, List.take_length]
theorem lc_map {α : Type} {vs : List Nat} {es : Env → M Src} {tg : LT} {ee : Env → M D} {ρ : Env} {S : Store} (l : List α) (f : α → D) (g : α → D) (he : es ρ S = .ok (.fix (l.map f)) S)
    (hs : ∀ a ∈ l, ∃ ρ', asgT tg (f a) (wipeE ρ vs) = some ρ' ∧ ee ρ' S = .ok (g a) S) : lcM vs es tg none ee ρ S = .ok (.lst (l.map g)) S := by
  have h := lc_eq (ec := none) l f (fun _ => true) g he fun a ha => by
    obtain ⟨ρ', e1, e2⟩ := hs a ha
    exact ⟨ρ', e1, rfl, fun _ => e2⟩
  rw [h, List.filter_eq_self.mpr fun _ _ => rfl]
/-! ### numbers and tuples of numbers -/
def tI (xs : List Int) : D := .tup (xs.map .int)
def tT (xs : List (List Int)) : D := .tup (xs.map tI)
@[simp] theorem intsOf_map (xs : List Int) : intsOf (xs.map D.int) = some xs := by
  induction xs with
  | nil => rfl
  | cons x xs ih => show (intsOf (xs.map D.int)).map (x :: ·) = _; rw [ih]; rfl
@[simp] theorem blsOf_map (xs : List Bool) : blsOf (xs.map D.bl) = some xs := by
  induction xs with
  | nil => rfl
  | cons x xs ih => show (blsOf (xs.map D.bl)).map (x :: ·) = _; rw [ih]; rfl
theorem shA_of {xs : List D} {n : Nat} (h : ∀ x ∈ xs, x.sh n = true) : D.shA xs n = true := by
  induction xs with
  | nil => rfl
  | cons x xs ih =>
    show (D.sh x n && D.shA xs n) = true
    rw [h x List.mem_cons_self, ih fun y hy => h y (List.mem_cons_of_mem _ hy)]
    rfl
@[simp] theorem sh_ints (xs : List Int) (n : Nat) : D.shA (xs.map D.int) n = true := shA_of fun x hx => by
  obtain ⟨i, _, rfl⟩ := List.mem_map.mp hx
  rfl
@[simp] theorem sh_tI (xs : List Int) (n : Nat) : (tI xs).sh (n + 1) = true := sh_ints xs n
@[simp] theorem sh_tIs (xs : List (List Int)) (n : Nat) : D.shA (xs.map tI) (n + 1) = true := shA_of fun x hx => by
  obtain ⟨i, _, rfl⟩ := List.mem_map.mp hx
  exact sh_tI i n
@[simp] theorem sh_tT (xs : List (List Int)) (n : Nat) : (tT xs).sh (n + 2) = true := sh_tIs xs n
theorem pd_ints (xs : List Int) : D.pdA (xs.map D.int) = xs.map PySem.W.Datum.toD := by
  rw [pdA_map, List.map_map]; rfl
theorem pd_tI (xs : List Int) : (tI xs).pd = PySem.W.Datum.toD (PySem.W.Tup.mk xs) := by
  show PyData.tuple (D.pdA (xs.map D.int)) = _
  rw [pd_ints]; rfl
theorem pd_tIs (xs : List (List Int)) : D.pdA (xs.map tI) = (xs.map PySem.W.Tup.mk).map PySem.W.Datum.toD := by
  rw [pdA_map, List.map_map, List.map_map]
  exact List.map_congr_left fun a _ => pd_tI a
theorem pd_tT (xs : List (List Int)) : (tT xs).pd = PySem.W.Datum.toD (PySem.W.Tup.mk (xs.map PySem.W.Tup.mk)) := by
  show PyData.tuple (D.pdA (xs.map tI)) = _
  rw [pd_tIs]; rfl
@[simp] theorem eqb_int (a b : Int) : (D.int a).eqb (.int b) = decide (a = b) := PySem.W.Datum.eqv a b
@[simp] theorem eqb_bl (a b : Bool) : (D.bl a).eqb (.bl b) = decide (a = b) := PySem.W.Datum.eqv a b
@[simp] theorem eqb_tI (a b : List Int) : (tI a).eqb (tI b) = decide (a = b) := by
  unfold D.eqb
  rw [pd_tI, pd_tI, PySem.W.Datum.eqv]
  simp
theorem map_mk_inj {α : Type} (a b : List (List Int)) : a.map PySem.W.Tup.mk = b.map PySem.W.Tup.mk ↔ a = b := by
  constructor
  · intro h
    have := congrArg (List.map PySem.W.Tup.items) h
    simpa [List.map_map, Function.comp_def] using this
  · rintro rfl; rfl
@[simp] theorem eqb_tT (a b : List (List Int)) : (tT a).eqb (tT b) = decide (a = b) := by
  unfold D.eqb
  rw [pd_tT, pd_tT, PySem.W.Datum.eqv]
  simp [map_mk_inj (α := Int)]
@[simp] theorem eqb_lI (a b : List Int) : (D.lst (a.map .int)).eqb (.lst (b.map .int)) = decide (a = b) := by
  show PyData.eqv (.list (D.pdA (a.map D.int))) (.list (D.pdA (b.map D.int))) = _
  rw [pd_ints, pd_ints]
  exact PySem.W.Datum.eqv a b
theorem any_tI (xs : List (List Int)) (a : List Int) : ((xs.map tI).any fun x => x.eqb (tI a)) = decide (a ∈ xs) := by
  rw [List.any_map]
  rw [Bool.eq_iff_iff, List.any_eq_true, decide_eq_true_eq]
  constructor
  · rintro ⟨x, hx, h⟩
    have h : (tI x).eqb (tI a) = true := h
    rw [eqb_tI, decide_eq_true_eq] at h
    subst h
    exact hx
  · intro h
    exact ⟨a, h, by show (tI a).eqb (tI a) = true; rw [eqb_tI]; simp⟩
theorem any_int (xs : List Int) (a : Int) : ((xs.map D.int).any fun x => x.eqb (.int a)) = decide (a ∈ xs) := by
  rw [List.any_map]
  rw [Bool.eq_iff_iff, List.any_eq_true, decide_eq_true_eq]
  constructor
  · rintro ⟨x, hx, h⟩
    have h : (D.int x).eqb (.int a) = true := h
    rw [eqb_int, decide_eq_true_eq] at h
    subst h
    exact hx
  · intro h
    exact ⟨a, h, by show (D.int a).eqb (.int a) = true; rw [eqb_int]; simp⟩
/-! ### sorted -/
theorem le_int (a b : Int) : PySem.W.dataLe false D.pd (.int a) (.int b) = decide (a ≤ b) := by
  show (!PyProof.Rows.lexLt PyProof.Rows.itemOrd [.inl b] [.inl a]) = _
  show (!(decide (b < a) || (!decide (a < b) && false))) = _
  rw [Bool.and_false, Bool.or_false]
  by_cases h : b < a
  · have h2 : ¬ a ≤ b := by omega
    simp [h, h2]
  · have h2 : a ≤ b := by omega
    simp [h, h2]
theorem lt_toks : ∀ a b : List Int, PyProof.Rows.lexLt PyProof.Rows.itemOrd (PySem.W.keyToksAll (a.map PyData.int)) (PySem.W.keyToksAll (b.map PyData.int)) = HT.lexLt a b
  | [], [] => by
    show PyProof.Rows.lexLt PyProof.Rows.itemOrd [.inl 0] [.inl 0] = _
    rw [lex_self]; rfl
  | [], y :: ys => by
    show PyProof.Rows.lexLt PyProof.Rows.itemOrd [.inl 0] (.inl 1 :: _) = _
    rw [lex_diff (by decide)]; rfl
  | x :: xs, [] => by
    show PyProof.Rows.lexLt PyProof.Rows.itemOrd (.inl 1 :: _) [.inl 0] = _
    rw [lex_diff (by decide)]; rfl
  | x :: xs, y :: ys => by
    show PyProof.Rows.lexLt PyProof.Rows.itemOrd (.inl 1 :: .inl x :: PySem.W.keyToksAll (xs.map PyData.int)) (.inl 1 :: .inl y :: PySem.W.keyToksAll (ys.map PyData.int)) = _
    rw [lex_self, HT.lexLt_cons]
    by_cases h : x = y
    · subst h
      rw [lex_self, if_pos rfl]
      exact lt_toks xs ys
    · rw [lex_diff (fun z => h (Sum.inl.inj z)), if_neg h]
      rfl
theorem le_tI (a b : List Int) : PySem.W.dataLe false D.pd (tI a) (tI b) = !HT.lexLt b a := by
  show (!PyProof.Rows.lexLt PyProof.Rows.itemOrd (PySem.W.keyToksAll (D.pdA (b.map D.int))) (PySem.W.keyToksAll (D.pdA (a.map D.int)))) = _
  rw [pd_ints, pd_ints]
  exact congrArg (!·) (lt_toks b a)
theorem lexLt_tri : ∀ a b : List Int, HT.lexLt a b = false → HT.lexLt b a = false → a = b
  | [], [], _, _ => rfl
  | [], _ :: _, h, _ => by cases h
  | _ :: _, [], _, h => by cases h
  | x :: xs, y :: ys, h1, h2 => by
    rw [HT.lexLt_cons] at h1 h2
    by_cases h : x = y
    · subst h
      rw [if_pos rfl] at h1 h2
      rw [lexLt_tri xs ys h1 h2]
    · rw [if_neg h] at h1
      rw [if_neg (fun z => h z.symm)] at h2
      have h1 := of_decide_eq_false h1
      have h2 := of_decide_eq_false h2
      omega
theorem sortD_int (xs : List Int) : ∃ ys : List Int, sortD (xs.map D.int) = ys.map D.int ∧ ys.Perm xs ∧ ys.Pairwise (· ≤ ·) := by
  refine ⟨xs.mergeSort (fun a b => decide (a ≤ b)), ?_, List.mergeSort_perm .., ?_⟩
  · unfold sortD
    exact (List.map_mergeSort (f := D.int) (r := fun a b => decide (a ≤ b)) (s := PySem.W.dataLe false D.pd) (l := xs) fun a _ b _ => (le_int a b).symm).symm
  · have := List.pairwise_mergeSort (le := fun a b : Int => decide (a ≤ b)) (fun a b c h1 h2 => by simp at *; omega) (fun a b => by simp; omega) xs
    exact this.imp fun h => of_decide_eq_true h
theorem lexLe_trans (a b c : List Int) (h1 : (!HT.lexLt b a) = true) (h2 : (!HT.lexLt c b) = true) : (!HT.lexLt c a) = true := by
  rw [← le_tI] at *
  exact (PySem.W.sortLe_total _ _ _).trans _ _ _ h1 h2
theorem lexLe_total (a b : List Int) : ((!HT.lexLt b a) || (!HT.lexLt a b)) = true := by
  rw [← le_tI, ← le_tI]
  exact Bool.or_eq_true_iff.mpr ((PySem.W.sortLe_total _ _ _).total _ _)
theorem sortD_tI (xs : List (List Int)) : ∃ ys : List (List Int), sortD (xs.map tI) = ys.map tI ∧ ys.Perm xs ∧ ys.Pairwise (fun a b => HT.lexLt b a = false) := by
  refine ⟨xs.mergeSort (fun a b => !HT.lexLt b a), ?_, List.mergeSort_perm .., ?_⟩
  · unfold sortD
    exact (List.map_mergeSort (f := tI) (r := fun a b => !HT.lexLt b a) (s := PySem.W.dataLe false D.pd) (l := xs) fun a _ b _ => (le_tI a b).symm).symm
  · have := List.pairwise_mergeSort (le := fun a b : List Int => !HT.lexLt b a) lexLe_trans lexLe_total xs
    exact this.imp fun h => by simpa using h
theorem sortOk_int (xs : List Int) : sortOk (xs.map D.int) = true := by
  have h1 : alikeB (D.pdA (xs.map D.int)) = true := by
    rw [pd_ints]
    refine List.all_eq_true.mpr fun a ha => List.all_eq_true.mpr fun b hb => ?_
    obtain ⟨a, _, rfl⟩ := List.mem_map.mp ha
    obtain ⟨b, _, rfl⟩ := List.mem_map.mp hb
    rfl
  have h2 : (xs.map D.int).all noTup = true := by
    rw [List.all_map, List.all_eq_true]
    intro a _
    rfl
  unfold sortOk
  rw [h1, h2, sh_ints]
  simp
theorem alikeAll_ints : ∀ a b : List Int, PySem.W.alikeAll (a.map PyData.int) (b.map PyData.int) = true
  | [], _ => by cases ‹List Int› <;> rfl
  | _ :: _, [] => rfl
  | x :: xs, y :: ys => by
    show (PySem.W.alike (.int x) (.int y) && PySem.W.alikeAll (xs.map PyData.int) (ys.map PyData.int)) = true
    rw [alikeAll_ints xs ys]
    rfl
theorem sortOk_tI (xs : List (List Int)) (h : ∀ x ∈ xs, x ≠ []) : sortOk (xs.map tI) = true := by
  have h1 : alikeB (D.pdA (xs.map tI)) = true := by
    rw [pd_tIs]
    refine List.all_eq_true.mpr fun a ha => List.all_eq_true.mpr fun b hb => ?_
    obtain ⟨a', ha', rfl⟩ := List.mem_map.mp ha
    obtain ⟨b', hb', rfl⟩ := List.mem_map.mp hb
    exact alikeAll_ints a'.items b'.items
  have h2 : (xs.map tI).all neTup = true := by
    rw [List.all_map, List.all_eq_true]
    intro a ha
    cases a with
    | nil => exact absurd rfl (h [] ha)
    | cons _ _ => rfl
  unfold sortOk
  rw [h1, h2, sh_tIs]
  rfl
end LC

/-! BD: the defs that the laws share, as terms (printed by pr.py). -/
namespace LC
open PySem
/-! the defs of the text -/
def b_is_between : LB :=
  (.cons (.ret (.bop true (.cons (.isi (.cons (.var 0) (.cons (.ty .int) .nil))) (.cons (.nt (.isi (.cons (.var 0) (.cons (.ty .bool) .nil)))) (.cons (.chn .LtE .LtE (.var 1) (.var 0) (.var 2)) .nil)))))
    .nil)
def b_is_lot : LB :=
  (.cons (.ifs (.bop false (.cons (.nt (.isi (.cons (.var 1) (.cons (.ty .tuple) .nil)))) (.cons (.cmp .Eq (.var 1) (.tup .nil)) (.cons (.nt (.blt .all (.cons (.lc [2] (.of (.var 1)) (.nm 2) .none (.call "is_between" (.cons (.var 2) (.cons (.cst (.int 0)) (.cons (.bin .Sub (.var 0) (.cst (.int 1))) .nil))))) .nil))) .nil)))) (.cons (.ret (.cst (.bl false)))
    .nil) .nil)
    (.cons (.ret (.blt .all (.cons (.lc [3] (.rng (.cons (.bin .Sub (.blt .len (.cons (.var 1) .nil)) (.cst (.int 1))) .nil)) (.nm 3) .none (.cmp .Lt (.idx (.var 1) (.var 3)) (.idx (.var 1) (.bin .Add (.var 3) (.cst (.int 1)))))) .nil)))
    .nil))
def b_is_family : LB :=
  (.cons (.ifs (.bop false (.cons (.nt (.isi (.cons (.var 0) (.cons (.ty .tuple) .nil)))) (.cons (.cmp .NotEq (.blt .len (.cons (.var 0) .nil)) (.cst (.int 2))) (.cons (.nt (.call "is_between" (.cons (.idx (.var 0) (.cst (.int 0))) (.cons (.cst (.int 1)) (.cons (.cst (.int 7)) .nil))))) .nil)))) (.cons (.ret (.cst (.bl false)))
    .nil) .nil)
    (.cons (.asg (.tp [1, 2]) (.var 0))
    (.cons (.ifs (.bop false (.cons (.nt (.isi (.cons (.var 2) (.cons (.ty .tuple) .nil)))) (.cons (.nt (.chn .LtE .LtE (.cst (.int 1)) (.blt .len (.cons (.var 2) .nil)) (.cst (.int 8)))) (.cons (.nt (.blt .all (.cons (.lc [3] (.of (.var 2)) (.nm 3) .none (.call "is_lot" (.cons (.var 1) (.cons (.var 3) .nil)))) .nil))) .nil)))) (.cons (.ret (.cst (.bl false)))
    .nil) .nil)
    (.cons (.ret (.blt .all (.cons (.lc [4] (.rng (.cons (.bin .Sub (.blt .len (.cons (.var 2) .nil)) (.cst (.int 1))) .nil)) (.nm 4) .none (.cmp .Lt (.idx (.var 2) (.var 4)) (.idx (.var 2) (.bin .Add (.var 4) (.cst (.int 1)))))) .nil)))
    .nil))))
def b_check_family : LB :=
  (.cons (.ifs (.nt (.call "is_family" (.cons (.var 0) .nil))) (.cons (.rai "InvalidFamily")
    .nil) .nil)
    .nil)
def b_are_colours : LB :=
  (.cons (.ifs (.bop false (.cons (.nt (.isi (.cons (.var 1) (.cons (.ty .tuple) .nil)))) (.cons (.cmp .NotEq (.blt .len (.cons (.var 1) .nil)) (.idx (.var 0) (.cst (.int 0)))) .nil))) (.cons (.ret (.cst (.bl false)))
    .nil) .nil)
    (.cons (.ret (.blt .all (.cons (.lc [2] (.of (.var 1)) (.nm 2) .none (.bop true (.cons (.isi (.cons (.var 2) (.cons (.ty .int) .nil))) (.cons (.nt (.isi (.cons (.var 2) (.cons (.ty .bool) .nil)))) (.cons (.cmp .In (.var 2) (.tup (.cons (.neg (.cst (.int 1))) (.cons (.cst (.int 1)) .nil)))) .nil))))) .nil)))
    .nil))
def b_is_colours : LB :=
  (.cons (.ex (.call "check_family" (.cons (.var 0) .nil)))
    (.cons (.ret (.call "are_colours" (.cons (.var 0) (.cons (.var 1) .nil))))
    .nil))
def b_check_both : LB :=
  (.cons (.ex (.call "check_family" (.cons (.var 0) .nil)))
    (.cons (.ifs (.nt (.call "are_colours" (.cons (.var 0) (.cons (.var 1) .nil)))) (.cons (.rai "InvalidColours")
    .nil) .nil)
    .nil))
def b_found_sums : LB :=
  (.cons (.ret (.blt .tuple (.cons (.lc [3] (.of (.idx (.var 0) (.cst (.int 1)))) (.nm 3) .none (.blt .sum (.cons (.lc [2] (.of (.var 3)) (.nm 2) .none (.idx (.var 1) (.var 2))) .nil))) .nil)))
    .nil)
def b_found_uneven : LB :=
  (.cons (.ret (.blt .max (.cons (.lc [2] (.of (.call "found_sums" (.cons (.var 0) (.cons (.var 1) .nil)))) (.nm 2) .none (.blt .abs (.cons (.var 2) .nil))) .nil)))
    .nil)
def b_sums : LB :=
  (.cons (.ex (.call "check_both" (.cons (.var 0) (.cons (.var 1) .nil))))
    (.cons (.ret (.call "found_sums" (.cons (.var 0) (.cons (.var 1) .nil))))
    .nil))
def b_uneven : LB :=
  (.cons (.ex (.call "check_both" (.cons (.var 0) (.cons (.var 1) .nil))))
    (.cons (.ret (.call "found_uneven" (.cons (.var 0) (.cons (.var 1) .nil))))
    .nil))
def b_all_colours : LB :=
  (.cons (.set 1 (.lst (.cons (.tup .nil) .nil)))
    (.cons (.for_ (.rng (.cons (.var 0) .nil)) (.nm 2) (.cons (.setLc 1 (.lc2 [3, 4] [4] (.of (.var 1)) (.nm 3) .none (.of (.tup (.cons (.neg (.cst (.int 1))) (.cons (.cst (.int 1)) .nil)))) (.nm 4) .none (.bin .Add (.var 3) (.tup (.cons (.var 4) .nil)))))
    .nil))
    (.cons (.ret (.var 1))
    .nil)))
def b_found_least : LB :=
  (.cons (.ret (.blt .min (.cons (.lc [1] (.of (.call "all_colours" (.cons (.idx (.var 0) (.cst (.int 0))) .nil))) (.nm 1) .none (.call "found_uneven" (.cons (.var 0) (.cons (.var 1) .nil)))) .nil)))
    .nil)
def b_least_uneven : LB :=
  (.cons (.ex (.call "check_family" (.cons (.var 0) .nil)))
    (.cons (.ret (.call "found_least" (.cons (.var 0) .nil)))
    .nil))
def b_all_best : LB :=
  (.cons (.ex (.call "check_family" (.cons (.var 0) .nil)))
    (.cons (.set 1 (.call "found_least" (.cons (.var 0) .nil)))
    (.cons (.ret (.blt .tuple (.cons (.lc [2] (.of (.call "all_colours" (.cons (.idx (.var 0) (.cst (.int 0))) .nil))) (.nm 2) (.some (.cmp .Eq (.call "found_uneven" (.cons (.var 0) (.cons (.var 2) .nil))) (.var 1))) (.var 2)) .nil)))
    .nil)))
def b__law_town : LB :=
  (.cons (.ret (.addC (.lst (.cons (.cst (.int 0)) .nil)) (.blt .list (.cons (.var 0) .nil))))
    .nil)
def b__law_draw : LB :=
  (.cons (.stI (.var 1) (.cst (.int 0)) (.bin .Add (.idx (.var 1) (.cst (.int 0))) (.cst (.int 1))))
    (.cons (.ifs (.cmp .Eq (.var 0) (.lst .nil)) (.cons (.ret (.bin .Mod (.bin .FloorDiv (.bin .Mult (.bin .Mult (.idx (.var 1) (.cst (.int 0))) (.idx (.var 1) (.cst (.int 0)))) (.cst (.int 7))) (.cst (.int 3))) (.var 2)))
    .nil) .nil)
    (.cons (.set 3 (.bin .Mod (.idx (.var 1) (.cst (.int 0))) (.blt .len (.cons (.var 0) .nil))))
    (.cons (.set 4 (.idx (.var 1) (.bin .Add (.cst (.int 1)) (.var 3))))
    (.cons (.ifs (.bop true (.cons (.cmp .GtE (.idx (.var 0) (.var 3)) (.bin .Pow (.cst (.int 10)) (.cst (.int 18)))) (.cons (.cmp .Gt (.var 4) (.cst (.int 0))) .nil))) (.cons (.stI (.var 1) (.bin .Add (.cst (.int 1)) (.var 3)) (.bin .FloorDiv (.var 4) (.var 2)))
    (.cons (.ret (.bin .Mod (.var 4) (.var 2)))
    .nil)) .nil)
    (.cons (.set 5 (.bin .Mod (.bin .Add (.idx (.var 0) (.var 3)) (.bin .Mult (.cst (.int 104729)) (.idx (.var 1) (.cst (.int 0))))) (.cst (.int 4294967291))))
    (.cons (.set 5 (.bin .Mod (.bin .Pow (.var 5) (.cst (.int 5))) (.cst (.int 4294967279))))
    (.cons (.ret (.bin .Mod (.bin .FloorDiv (.bin .Mod (.bin .Add (.bin .Mult (.bin .FloorDiv (.var 5) (.cst (.int 64))) (.cst (.int 69621))) (.var 5)) (.cst (.int 4294967231))) (.cst (.int 8))) (.var 2)))
    .nil))))))))
def b__law_family : LB :=
  (.cons (.par 3 4 (.cons (.bin .Add (.cst (.int 1)) (.call "_law_draw" (.cons (.var 0) (.cons (.var 1) (.cons (.var 2) .nil))))) (.cons (.lst .nil) .nil)))
    (.cons (.asg (.tp [5, 6]) (.tup (.cons (.bin .Add (.cst (.int 1)) (.call "_law_draw" (.cons (.var 0) (.cons (.var 1) (.cons (.cst (.int 3)) .nil))))) (.cons (.bop true (.cons (.cmp .Gt (.var 3) (.cst (.int 2))) (.cons (.cmp .Eq (.call "_law_draw" (.cons (.var 0) (.cons (.var 1) (.cons (.cst (.int 2)) .nil)))) (.cst (.int 0))) .nil))) .nil))))
    (.cons (.for_ (.rng (.cons (.bin .Add (.cst (.int 1)) (.call "_law_draw" (.cons (.var 0) (.cons (.var 1) (.cons (.cst (.int 8)) .nil))))) .nil)) (.nm 7) (.cons (.ifs (.var 6) (.cons (.set 8 (.call "_law_draw" (.cons (.var 0) (.cons (.var 1) (.cons (.var 3) .nil)))))
    (.cons (.set 9 (.blt .sorted (.cons (.lst (.cons (.var 8) (.cons (.bin .Mod (.bin .Add (.bin .Add (.var 8) (.cst (.int 1))) (.call "_law_draw" (.cons (.var 0) (.cons (.var 1) (.cons (.cst (.int 2)) .nil))))) (.var 3)) .nil))) .nil)))
    .nil)) (.cons (.setLc 9 (.lc [8] (.rng (.cons (.var 3) .nil)) (.nm 8) (.some (.cmp .Lt (.call "_law_draw" (.cons (.var 0) (.cons (.var 1) (.cons (.cst (.int 4)) .nil)))) (.var 5))) (.var 8)))
    .nil))
    (.cons (.set 9 (.blt .tuple (.cons (.ite (.cmp .NotEq (.var 9) (.lst .nil)) (.var 9) (.lst (.cons (.call "_law_draw" (.cons (.var 0) (.cons (.var 1) (.cons (.var 3) .nil)))) .nil))) .nil)))
    (.cons (.set 4 (.bin .Add (.var 4) (.ite (.cmp .NotIn (.var 9) (.var 4)) (.lst (.cons (.var 9) .nil)) (.lst .nil))))
    .nil))))
    (.cons (.ret (.tup (.cons (.var 3) (.cons (.blt .tuple (.cons (.blt .sorted (.cons (.var 4) .nil)) .nil)) .nil))))
    .nil))))
def b__law_all : LB :=
  (.cons (.set 2 (.lst (.cons (.tup .nil) .nil)))
    (.cons (.for_ (.rng (.cons (.var 0) .nil)) (.nm 3) (.cons (.set 4 (.lst .nil))
    (.cons (.for_ (.of (.var 2)) (.nm 5) (.cons (.set 4 (.bin .Add (.var 4) (.lc [6] (.of (.var 1)) (.nm 6) .none (.bin .Add (.var 5) (.tup (.cons (.var 6) .nil))))))
    .nil))
    (.cons (.set 2 (.var 4))
    .nil))))
    (.cons (.ret (.var 2))
    .nil)))
def b__law_sums : LB :=
  (.cons (.ret (.blt .tuple (.cons (.lc [3] (.of (.idx (.var 0) (.cst (.int 1)))) (.nm 3) .none (.blt .sum (.cons (.lc [2] (.of (.var 3)) (.nm 2) .none (.idx (.var 1) (.var 2))) .nil))) .nil)))
    .nil)
def b__law_uneven : LB :=
  (.cons (.ret (.blt .max (.cons (.lc [2] (.of (.call "_law_sums" (.cons (.var 0) (.cons (.var 1) .nil)))) (.nm 2) .none (.blt .abs (.cons (.var 2) .nil))) .nil)))
    .nil)
def b__law_hues : LB :=
  (.cons (.ret (.blt .tuple (.cons (.lc [3] (.rng (.cons (.var 2) .nil)) (.nm 3) .none (.bin .Sub (.bin .Mult (.cst (.int 2)) (.call "_law_draw" (.cons (.var 0) (.cons (.var 1) (.cons (.cst (.int 2)) .nil))))) (.cst (.int 1)))) .nil)))
    .nil)
end LC

set_option maxHeartbeats 2000000
/-! SL: one step of the evaluator each, with the store at hand. -/
namespace LC
open PySem PySem.Spec PyProof.Rows L2
section
variable {cf : Str → List D → M D} {ρ : Env} {S : Store}
def andK : D → M D → M D
  | .bl true, m => m
  | .bl false, _ => M.pure (.bl false)
  | _, _ => M.bad
def orK : D → M D → M D
  | .bl false, m => m
  | .bl true, _ => M.pure (.bl true)
  | _, _ => M.bad
def iteK {α : Type} : D → M α → M α → M α
  | .bl true, m, _ => m
  | .bl false, _, m => m
  | _, _, _ => M.bad
def seqK (b : Env → M Fl) : Fl → M Fl
  | .nx ρ => b ρ
  | .rt d => M.pure (.rt d)
def asgK (tg : LT) (d : D) (ρ : Env) : M Fl := match asgT tg d ρ with
  | some ρ' => M.pure (.nx ρ')
  | none => M.bad
def slI : D → M (Option Int)
  | .int i => M.pure (some i)
  | _ => M.bad
@[simp] theorem andK_t (m : M D) (S : Store) : andK (.bl true) m S = m S := rfl
@[simp] theorem andK_f (m : M D) (S : Store) : andK (.bl false) m S = .ok (.bl false) S := rfl
@[simp] theorem orK_f (m : M D) (S : Store) : orK (.bl false) m S = m S := rfl
@[simp] theorem orK_t (m : M D) (S : Store) : orK (.bl true) m S = .ok (.bl true) S := rfl
@[simp] theorem iteK_t {α : Type} (m n : M α) (S : Store) : iteK (.bl true) m n S = m S := rfl
@[simp] theorem iteK_f {α : Type} (m n : M α) (S : Store) : iteK (.bl false) m n S = n S := rfl
@[simp] theorem seqK_n (b : Env → M Fl) (ρ : Env) (S : Store) : seqK b (.nx ρ) S = b ρ S := rfl
@[simp] theorem seqK_r (b : Env → M Fl) (d : D) (S : Store) : seqK b (.rt d) S = .ok (.rt d) S := rfl
@[simp] theorem slI_i (i : Int) (S : Store) : slI (.int i) S = .ok (some i) S := rfl
@[simp] theorem endF_n (S : Store) (ρ : Env) : endF (.nx ρ) S = .ok .non S := rfl
@[simp] theorem endF_r (S : Store) (d : D) : endF (.rt d) S = .ok d S := rfl
@[simp] theorem asgK_nm (i : Nat) (d : D) : asgK (.nm i) d ρ S = .ok (.nx (ρ.set i (some d))) S := rfl
@[simp] theorem asgK_t2 (i j : Nat) (a b : D) : asgK (.tp [i, j]) (.tup [a, b]) ρ S = .ok (.nx ((ρ.set i (some a)).set j (some b))) S := rfl
@[simp] theorem asgK_t3 (i j k : Nat) (a b c : D) : asgK (.tp [i, j, k]) (.tup [a, b, c]) ρ S = .ok (.nx (((ρ.set i (some a)).set j (some b)).set k (some c))) S := rfl
theorem getE_0 (a : Option D) (r : Env) : getE (a :: r) 0 = a := by cases a <;> rfl
theorem getE_s (a : Option D) (r : Env) (n : Nat) : getE (a :: r) (n + 1) = getE r n := rfl
theorem e_var (i : Nat) : evE cf (.var i) ρ S = M.opt (getE ρ i) S := rfl
theorem e_cst (d : D) : evE cf (.cst d) ρ S = .ok d S := rfl
theorem e_ty (b : BT) : evE cf (.ty b) ρ S = .ok (.ty b.nm) S := rfl
theorem e_gfn (x : Str) : evE cf (.gfn x) ρ S = .ok (.fn x) S := rfl
theorem e_bin (op : Operator) (a b : LE) : evE cf (.bin op a b) ρ S = (evE cf a ρ S).bind fun x S1 => (evE cf b ρ S1).bind fun y S2 => M.opt (binD op (vw S2 x) (vw S2 y)) S2 := rfl
theorem e_cmp (op : CmpOp) (a b : LE) : evE cf (.cmp op a b) ρ S = (evE cf a ρ S).bind fun x S1 => (evE cf b ρ S1).bind fun y S2 => M.opt (cmpB op (vw S2 x) (vw S2 y)) S2 := rfl
theorem e_chn (op op2 : CmpOp) (a b c : LE) : evE cf (.chn op op2 a b c) ρ S = (evE cf a ρ S).bind fun x S1 => (evE cf b ρ S1).bind fun y S2 => (M.opt (cmpB op (vw S2 x) (vw S2 y)) S2).bind fun t S3 => andK t (fun S3 => (evE cf c ρ S3).bind fun z S4 => M.opt (cmpB op2 (vw S4 y) (vw S4 z)) S4) S3 := by
  show ((evE cf a ρ S).bind fun x => M.bind (evE cf b ρ) fun y => M.bind (fun S => M.opt (cmpB op (vw S x) (vw S y)) S) fun t => match t with
    | .bl true => M.bind (evE cf c ρ) fun z => fun S => M.opt (cmpB op2 (vw S y) (vw S z)) S
    | .bl false => M.pure (.bl false)
    | _ => M.bad) = _
  congr 1
  funext x S1
  show ((evE cf b ρ S1).bind _) = _
  congr 1
  funext y S2
  show ((M.opt (cmpB op (vw S2 x) (vw S2 y)) S2).bind _) = _
  congr 1
  funext t S3
  cases t with
  | bl t => cases t <;> rfl
  | _ => rfl
theorem e_neg (a : LE) : evE cf (.neg a) ρ S = (evE cf a ρ S).bind fun x S1 => M.opt (negD x) S1 := rfl
theorem e_nt (a : LE) : evE cf (.nt a) ρ S = (evE cf a ρ S).bind fun x S1 => M.opt (notD x) S1 := rfl
theorem e_one (t : Bool) (a : LE) : evE cf (.bop t (.cons a .nil)) ρ S = evE cf a ρ S := rfl
theorem e_and (a b : LE) (es : LAs) : evE cf (.bop true (.cons a (.cons b es))) ρ S = (evE cf a ρ S).bind fun x S1 => andK x (fun S1 => evE cf (.bop true (.cons b es)) ρ S1) S1 := by
  show ((evE cf a ρ S).bind fun x => match x with
    | .bl true => evE cf (.bop true (.cons b es)) ρ
    | .bl false => M.pure (.bl false)
    | _ => M.bad) = _
  congr 1
  funext x S1
  cases x with
  | bl t => cases t <;> rfl
  | _ => rfl
theorem e_or (a b : LE) (es : LAs) : evE cf (.bop false (.cons a (.cons b es))) ρ S = (evE cf a ρ S).bind fun x S1 => orK x (fun S1 => evE cf (.bop false (.cons b es)) ρ S1) S1 := by
  show ((evE cf a ρ S).bind fun x => match x with
    | .bl false => evE cf (.bop false (.cons b es)) ρ
    | .bl true => M.pure (.bl true)
    | _ => M.bad) = _
  congr 1
  funext x S1
  cases x with
  | bl t => cases t <;> rfl
  | _ => rfl
theorem e_ite (c a b : LE) : evE cf (.ite c a b) ρ S = (evE cf c ρ S).bind fun x S1 => iteK x (fun S1 => evE cf a ρ S1) (fun S1 => evE cf b ρ S1) S1 := by
  show ((evE cf c ρ S).bind fun x => match x with
    | .bl true => evE cf a ρ
    | .bl false => evE cf b ρ
    | _ => M.bad) = _
  congr 1
  funext x S1
  cases x with
  | bl t => cases t <;> rfl
  | _ => rfl
theorem e_tup (es : LAs) : evE cf (.tup es) ρ S = (evA cf es ρ S).bind fun ds S1 => .ok (.tup ds) S1 := rfl
theorem e_lst (es : LAs) : evE cf (.lst es) ρ S = (evA cf es ρ S).bind fun ds S1 => .ok (.lst ds) S1 := rfl
theorem e_lstC (es : LAs) : evE cf (.lstC es) ρ S = (evA cf es ρ S).bind fun ds S1 => .ok (.cell S1.length) (S1 ++ [.lst ds]) := rfl
theorem e_addC (a b : LE) : evE cf (.addC a b) ρ S = (evE cf a ρ S).bind fun x S1 => (evE cf b ρ S1).bind fun y S2 => match vw S2 x, vw S2 y with
  | .lst xs, .lst ys => if xs.length + ys.length ≤ line then mkCell (xs ++ ys) S2 else .bad
  | _, _ => .bad := rfl
theorem e_idx (a i : LE) : evE cf (.idx a i) ρ S = (evE cf a ρ S).bind fun x S1 => (evE cf i ρ S1).bind fun y S2 => M.opt (idxD (vw S2 x) (vw S2 y)) S2 := rfl
theorem e_slc (a : LE) (lo hi : LO) : evE cf (.slc a lo hi) ρ S = (evE cf a ρ S).bind fun x S1 => (optI (evO cf lo) ρ S1).bind fun l S2 => (optI (evO cf hi) ρ S2).bind fun h S3 => M.opt (sliceD l h (vw S3 x)) S3 := rfl
theorem o_none : optI (evO cf .none) ρ S = .ok none S := rfl
theorem o_some (e : LE) : optI (evO cf (.some e)) ρ S = (evE cf e ρ S).bind fun d S1 => slI d S1 := by
  show ((evE cf e ρ S).bind fun d => match d with
    | .int i => M.pure (some i)
    | _ => M.bad) = _
  congr 1


theorem e_call0 (f : Str) : evE cf (.call f .nil) ρ S = (cf f [] S).nox := rfl
theorem e_call (f : Str) (a : LE) (es : LAs) : evE cf (.call f (.cons a es)) ρ S = (evA cf (.cons a es) ρ S).bind fun ds S1 => cf f ds S1 := rfl
theorem e_blt (b : BF) (es : LAs) : evE cf (.blt b es) ρ S = (evA cf es ρ S).bind fun ds S1 => M.opt (fB b S1 ds) S1 := rfl
theorem e_isi (es : LAs) : evE cf (.isi es) ρ S = (evA cf es ρ S).bind fun ds S1 => M.opt (fIsi S1 ds) S1 := rfl
theorem e_lc (vs : List Nat) (s : LI) (tg : LT) (c : LO) (e : LE) : evE cf (.lc vs s tg c e) ρ S = lcM vs (evI cf s) tg (evO cf c) (evE cf e) ρ S := rfl
theorem a_nil : evA cf .nil ρ S = .ok [] S := rfl
theorem a_cons (e : LE) (es : LAs) : evA cf (.cons e es) ρ S = (evE cf e ρ S).bind fun x S1 => (evA cf es ρ S1).bind fun xs S2 => .ok (x :: xs) S2 := rfl
theorem i_of (e : LE) : evI cf (.of e) ρ S = (evE cf e ρ S).bind fun x S1 => M.opt (srcOf S1 x) S1 := rfl
theorem i_rng (es : LAs) : evI cf (.rng es) ρ S = (evA cf es ρ S).bind fun ds S1 => M.opt (rngD ds) S1 := rfl
theorem c_none : condM (evO cf .none) ρ S = .ok true S := rfl
theorem c_some (e : LE) : condM (evO cf (.some e)) ρ S = (evE cf e ρ S).bind fun x S1 => toBl x S1 := rfl
@[simp] theorem toBl_b (b : Bool) (S : Store) : toBl (.bl b) S = .ok b S := rfl
theorem s_set (i : Nat) (e : LE) : exS cf (.set i e) ρ S = (evE cf e ρ S).bind fun d S1 => .ok (.nx (ρ.set i (some d))) S1 := rfl
theorem s_setLc (i : Nat) (e : LE) : exS cf (.setLc i e) ρ S = (evE cf e ρ S).bind fun d S1 => .ok (.nx (ρ.set i (some d))) S1 := rfl
theorem s_asg (tg : LT) (e : LE) : exS cf (.asg tg e) ρ S = (evE cf e ρ S).bind fun d S1 => asgK tg d ρ S1 := by
  show ((evE cf e ρ S).bind fun d => match asgT tg d ρ with
    | some ρ' => M.pure (Fl.nx ρ')
    | none => M.bad) = _
  rfl
theorem s_par (i j : Nat) (es : LAs) : exS cf (.par i j es) ρ S = (evA cf es ρ S).bind fun ds S1 => asgK (.tp [i, j]) (.tup ds) ρ S1 := by
  show (((evA cf es ρ S).bind fun ds => M.pure (D.tup ds)).bind fun d => match asgT (.tp [i, j]) d ρ with
    | some ρ' => M.pure (Fl.nx ρ')
    | none => M.bad) = _
  cases evA cf es ρ S <;> rfl
theorem s_stI (o i e : LE) : exS cf (.stI o i e) ρ S = (evE cf e ρ S).bind fun d S1 => (evE cf o ρ S1).bind fun od S2 => (evE cf i ρ S2).bind fun id S3 => (storeAt od id d S3).bind fun _ S4 => .ok (.nx ρ) S4 := rfl
theorem s_ex (e : LE) : exS cf (.ex e) ρ S = (evE cf e ρ S).bind fun _ S1 => .ok (.nx ρ) S1 := rfl
theorem s_ret (e : LE) : exS cf (.ret e) ρ S = (evE cf e ρ S).bind fun d S1 => .ok (.rt d) S1 := rfl
theorem s_if (c : LE) (a b : LB) : exS cf (.ifs c a b) ρ S = (evE cf c ρ S).bind fun x S1 => iteK x (fun S1 => exB cf a ρ S1) (fun S1 => exB cf b ρ S1) S1 := by
  show (((evE cf c ρ S).bind toBl).bind fun t => if t = true then exB cf a ρ else exB cf b ρ) = _
  cases evE cf c ρ S with
  | ok x S1 =>
    cases x with
    | bl t => cases t <;> rfl
    | _ => rfl
  | exc => rfl
  | bad => rfl
theorem s_for (s : LI) (tg : LT) (b : LB) : exS cf (.for_ s tg b) ρ S = xFor (evI cf s) tg (exB cf b) ρ S := rfl
theorem s_whl (c : LE) (b : LB) : exS cf (.whl c b) ρ S = xWhile (evE cf c) (exB cf b) ρ S := rfl
theorem s_rai (x : Str) : exS cf (.rai x) ρ S = .exc x S := rfl
theorem s_pass : exS cf .pass ρ S = .ok (.nx ρ) S := rfl
theorem b_nil : exB cf .nil ρ S = .ok (.nx ρ) S := rfl
theorem b_cons (s : LS) (b : LB) : exB cf (.cons s b) ρ S = (exS cf s ρ S).bind fun f S1 => seqK (fun ρ S1 => exB cf b ρ S1) f S1 := by
  show ((exS cf s ρ S).bind fun f => match f with
    | .nx ρ' => exB cf b ρ'
    | .rt d => M.pure (.rt d)) = _
  congr 1


/-! ### values -/
@[simp] theorem vw_i (i : Int) : vw S (.int i) = .int i := rfl
@[simp] theorem vw_b (i : Bool) : vw S (.bl i) = .bl i := rfl
@[simp] theorem vw_t (i : List D) : vw S (.tup i) = .tup i := rfl
@[simp] theorem vw_tI (i : List Int) : vw S (tI i) = tI i := rfl
@[simp] theorem vw_tT (i : List (List Int)) : vw S (tT i) = tT i := rfl
@[simp] theorem vw_l (i : List D) : vw S (.lst i) = .lst i := rfl
@[simp] theorem vw_s (i : Str) : vw S (.str i) = .str i := rfl
@[simp] theorem vw_n : vw S .non = .non := rfl
@[simp] theorem vw_ty (i : String) : vw S (.ty i) = .ty i := rfl
@[simp] theorem cmp_lt (a b : Int) : cmpB .Lt (.int a) (.int b) = some (.bl (decide (a < b))) := rfl
@[simp] theorem cmp_le (a b : Int) : cmpB .LtE (.int a) (.int b) = some (.bl (decide (a ≤ b))) := rfl
@[simp] theorem cmp_gt (a b : Int) : cmpB .Gt (.int a) (.int b) = some (.bl (decide (b < a))) := rfl
@[simp] theorem cmp_ge (a b : Int) : cmpB .GtE (.int a) (.int b) = some (.bl (decide (b ≤ a))) := rfl
@[simp] theorem cmp_ltT (a b : List Int) : cmpB .Lt (tI a) (tI b) = some (.bl (HT.lexLt a b)) := by
  show ((match intsOf (a.map D.int), intsOf (b.map D.int) with
    | some x, some y => some (HT.lexLt x y)
    | _, _ => none).map D.bl) = _
  rw [intsOf_map, intsOf_map]
  rfl
theorem cmp_eq {a b : D} (ha : a.sh 60 = true) (hb : b.sh 60 = true) : cmpB .Eq a b = some (.bl (a.eqb b)) := by
  have e : cmpD .Eq a b = if a.sh 60 && b.sh 60 then some (a.eqb b) else none := by cases a <;> rfl
  unfold cmpB
  rw [e, ha, hb]
  rfl
theorem cmp_ne {a b : D} (ha : a.sh 60 = true) (hb : b.sh 60 = true) : cmpB .NotEq a b = some (.bl (!a.eqb b)) := by
  have e : cmpD .NotEq a b = if a.sh 60 && b.sh 60 then some (!a.eqb b) else none := by cases a <;> rfl
  unfold cmpB
  rw [e, ha, hb]
  rfl
theorem cmp_inL {a : D} {xs : List D} (ha : a.sh 60 = true) (hb : D.shA xs 58 = true) : cmpB .In a (.lst xs) = some (.bl (xs.any fun x => x.eqb a)) := by
  have e : cmpD .In a (.lst xs) = if a.sh 60 && D.shA xs 58 then some (xs.any fun x => x.eqb a) else none := by cases a <;> rfl
  unfold cmpB
  rw [e, ha, hb]
  rfl
theorem cmp_inT {a : D} {xs : List D} (ha : a.sh 60 = true) (hb : D.shA xs 58 = true) : cmpB .In a (.tup xs) = some (.bl (xs.any fun x => x.eqb a)) := by
  have e : cmpD .In a (.tup xs) = if a.sh 60 && D.shA xs 58 then some (xs.any fun x => x.eqb a) else none := by cases a <;> rfl
  unfold cmpB
  rw [e, ha, hb]
  rfl
theorem cmp_niL {a : D} {xs : List D} (ha : a.sh 60 = true) (hb : D.shA xs 58 = true) : cmpB .NotIn a (.lst xs) = some (.bl (!xs.any fun x => x.eqb a)) := by
  have e : cmpD .NotIn a (.lst xs) = if a.sh 60 && D.shA xs 58 then some (!xs.any fun x => x.eqb a) else none := by cases a <;> rfl
  unfold cmpB
  rw [e, ha, hb]
  rfl
theorem cmp_niT {a : D} {xs : List D} (ha : a.sh 60 = true) (hb : D.shA xs 58 = true) : cmpB .NotIn a (.tup xs) = some (.bl (!xs.any fun x => x.eqb a)) := by
  have e : cmpD .NotIn a (.tup xs) = if a.sh 60 && D.shA xs 58 then some (!xs.any fun x => x.eqb a) else none := by cases a <;> rfl
  unfold cmpB
  rw [e, ha, hb]
  rfl
@[simp] theorem cmp_isN (a b : Bool) : cmpB .IsNot (.bl a) (.bl b) = some (.bl (!decide (a = b))) := rfl
@[simp] theorem cmp_isB (a b : Bool) : cmpB .Is (.bl a) (.bl b) = some (.bl (decide (a = b))) := rfl
@[simp] theorem bin_add (a b : Int) : binD .Add (.int a) (.int b) = some (.int (a + b)) := rfl
@[simp] theorem bin_sub (a b : Int) : binD .Sub (.int a) (.int b) = some (.int (a - b)) := rfl
theorem bin_mul {a b : Int} (h : a.natAbs.log2 + b.natAbs.log2 < 1000000) : binD .Mult (.int a) (.int b) = some (.int (a * b)) := if_pos h
theorem bin_mod {a b : Int} (h : b ≠ 0) : binD .Mod (.int a) (.int b) = some (.int (a.fmod b)) := if_pos h
theorem bin_div {a b : Int} (h : b ≠ 0 ∧ b.natAbs < 1073741824) : binD .FloorDiv (.int a) (.int b) = some (.int (a.fdiv b)) := if_pos (.inl h)
theorem bin_pow {a b : Int} (h : 0 ≤ b ∧ b ≤ 1000000 ∧ a.natAbs < 18446744073709551616) : binD .Pow (.int a) (.int b) = some (.int (a ^ b.toNat)) := if_pos h
theorem bin_addT {a b : List D} (h : a.length + b.length ≤ line) : binD .Add (.tup a) (.tup b) = some (.tup (a ++ b)) := if_pos h
theorem bin_addL {a b : List D} (h : a.length + b.length ≤ line) : binD .Add (.lst a) (.lst b) = some (.lst (a ++ b)) := if_pos h
@[simp] theorem isi_int (i : Int) (n : String) : fIsi S [.int i, .ty n] = (kitB "int" n).map D.bl := rfl
@[simp] theorem isi_bl (i : Bool) (n : String) : fIsi S [.bl i, .ty n] = (kitB "bool" n).map D.bl := rfl
@[simp] theorem isi_str (i : Str) (n : String) : fIsi S [.str i, .ty n] = (kitB "str" n).map D.bl := rfl
@[simp] theorem isi_tup (i : List D) (n : String) : fIsi S [.tup i, .ty n] = (kitB "tuple" n).map D.bl := rfl
@[simp] theorem isi_tI (i : List Int) (n : String) : fIsi S [tI i, .ty n] = (kitB "tuple" n).map D.bl := rfl
@[simp] theorem isi_tT (i : List (List Int)) (n : String) : fIsi S [tT i, .ty n] = (kitB "tuple" n).map D.bl := rfl
@[simp] theorem isi_lst (i : List D) (n : String) : fIsi S [.lst i, .ty n] = (kitB "list" n).map D.bl := rfl
@[simp] theorem isi_non (n : String) : fIsi S [.non, .ty n] = (kitB "NoneType" n).map D.bl := rfl
@[simp] theorem len_t (xs : List D) : fB .len S [.tup xs] = some (.int xs.length) := rfl
@[simp] theorem len_l (xs : List D) : fB .len S [.lst xs] = some (.int xs.length) := rfl
@[simp] theorem len_tI (xs : List Int) : fB .len S [tI xs] = some (.int xs.length) := by
  show some (D.int ((xs.map D.int).length : Nat)) = _
  rw [List.length_map]
@[simp] theorem len_tT (xs : List (List Int)) : fB .len S [tT xs] = some (.int xs.length) := by
  show some (D.int ((xs.map tI).length : Nat)) = _
  rw [List.length_map]
@[simp] theorem all_l (xs : List Bool) : fB .all S [.lst (xs.map D.bl)] = some (.bl (xs.all id)) := by
  show (blsOf (xs.map D.bl)).map _ = _
  rw [blsOf_map]; rfl
@[simp] theorem sum_l (xs : List Int) : fB .sum S [.lst (xs.map D.int)] = some (.int xs.sum) := by
  show (intsOf (xs.map D.int)).map _ = _
  rw [intsOf_map]; rfl
theorem max_l {xs : List Int} (h : xs ≠ []) : fB .max S [.lst (xs.map D.int)] = some (.int (maxL xs)) := by
  cases xs with
  | nil => exact absurd rfl h
  | cons x xs =>
    show (intsOf ((x :: xs).map D.int)).map _ = _
    rw [intsOf_map]; rfl
theorem min_l {xs : List Int} (h : xs ≠ []) : fB .min S [.lst (xs.map D.int)] = some (.int (minL xs)) := by
  cases xs with
  | nil => exact absurd rfl h
  | cons x xs =>
    show (intsOf ((x :: xs).map D.int)).map _ = _
    rw [intsOf_map]; rfl
@[simp] theorem abs_i (i : Int) : fB .abs S [.int i] = some (.int (if i < 0 then -i else i)) := rfl
@[simp] theorem tup_l (xs : List D) : fB .tuple S [.lst xs] = some (.tup xs) := rfl
@[simp] theorem tup_t (xs : List D) : fB .tuple S [.tup xs] = some (.tup xs) := rfl
@[simp] theorem list_t (xs : List D) : fB .list S [.tup xs] = some (.lst xs) := rfl
@[simp] theorem list_l (xs : List D) : fB .list S [.lst xs] = some (.lst xs) := rfl
theorem sorted_l {xs : List D} (h : sortOk xs = true) : fB .sorted S [.lst xs] = some (.lst (sortD xs)) := if_pos h
theorem sorted_t {xs : List D} (h : sortOk xs = true) : fB .sorted S [.tup xs] = some (.lst (sortD xs)) := if_pos h
@[simp] theorem not_b (b : Bool) : notD (.bl b) = some (.bl (!b)) := rfl
@[simp] theorem neg_i (b : Int) : negD (.int b) = some (.int (-b)) := rfl
@[simp] theorem src_t (xs : List D) : srcOf S (.tup xs) = some (.fix xs) := rfl
@[simp] theorem src_tI (xs : List Int) : srcOf S (tI xs) = some (.fix (xs.map D.int)) := rfl
@[simp] theorem src_tT (xs : List (List Int)) : srcOf S (tT xs) = some (.fix (xs.map tI)) := rfl
@[simp] theorem src_l (xs : List D) : srcOf S (.lst xs) = some (.fix xs) := rfl
theorem atI_of {α : Type} {xs : List α} {i : Int} {j : Nat} {x : α} (h : i = (j : Int)) (hx : xs[j]? = some x) : atI xs i = some x := by
  subst h
  have hj := (List.getElem?_eq_some_iff.mp hx).1
  unfold atI ixN
  rw [if_pos (Int.natCast_nonneg j), if_pos (Int.ofNat_lt.mpr hj)]
  simpa using hx
@[simp] theorem idx_t (xs : List D) (i : Int) : idxD (.tup xs) (.int i) = atI xs i := rfl
@[simp] theorem idx_l (xs : List D) (i : Int) : idxD (.lst xs) (.int i) = atI xs i := rfl
@[simp] theorem atI_0 {α : Type} (x : α) (xs : List α) : atI (x :: xs) 0 = some x := atI_of (j := 0) rfl rfl
@[simp] theorem atI_1 {α : Type} (x y : α) (xs : List α) : atI (x :: y :: xs) 1 = some y := atI_of (j := 1) rfl rfl
@[simp] theorem atI_2 {α : Type} (x y z : α) (xs : List α) : atI (x :: y :: z :: xs) 2 = some z := atI_of (j := 2) rfl rfl
theorem rng_1 {j : Int} (h : -1000000 ≤ j ∧ j ≤ 1000000) : rngD [.int j] = some (.fix (rangeD 0 j.toNat)) := if_pos h
theorem rangeD_0 (n : Nat) : rangeD 0 n = ((List.range n).map fun i : Nat => (i : Int)).map D.int := by
  unfold rangeD
  rw [List.map_map]
  exact List.map_congr_left fun i _ => by simp
end
end LC

set_option maxHeartbeats 4000000
/-! P2: what the shared defs do. -/
namespace LC
open PySem PySem.Spec PyProof.Rows L2
@[simp] theorem kit1 : kitB "int" "int" = some true := by decide +kernel
@[simp] theorem kit2 : kitB "int" "bool" = some false := by decide +kernel
@[simp] theorem kit3 : kitB "bool" "int" = some true := by decide +kernel
@[simp] theorem kit4 : kitB "bool" "bool" = some true := by decide +kernel
@[simp] theorem kit5 : kitB "str" "int" = some false := by decide +kernel
@[simp] theorem kit6 : kitB "str" "tuple" = some false := by decide +kernel
@[simp] theorem kit7 : kitB "tuple" "tuple" = some true := by decide +kernel
@[simp] theorem kit8 : kitB "list" "tuple" = some false := by decide +kernel
@[simp] theorem kit9 : kitB "NoneType" "tuple" = some false := by decide +kernel
@[simp] theorem kit10 : kitB "int" "tuple" = some false := by decide +kernel
@[simp] theorem kit11 : kitB "bool" "tuple" = some false := by decide +kernel
@[simp] theorem kit12 : kitB "NoneType" "int" = some false := by decide +kernel
@[simp] theorem kit13 : kitB "tuple" "int" = some false := by decide +kernel
@[simp] theorem kit14 : kitB "list" "int" = some false := by decide +kernel
@[simp] theorem ceq_i (a b : Int) : cmpB .Eq (.int a) (.int b) = some (.bl (decide (a = b))) := by rw [cmp_eq rfl rfl, eqb_int]
@[simp] theorem cne_i (a b : Int) : cmpB .NotEq (.int a) (.int b) = some (.bl (!decide (a = b))) := by rw [cmp_ne rfl rfl, eqb_int]
@[simp] theorem ceq_tI (a b : List Int) : cmpB .Eq (tI a) (tI b) = some (.bl (decide (a = b))) := by rw [cmp_eq (sh_tI a 59) (sh_tI b 59), eqb_tI]
@[simp] theorem cne_tI (a b : List Int) : cmpB .NotEq (tI a) (tI b) = some (.bl (!decide (a = b))) := by rw [cmp_ne (sh_tI a 59) (sh_tI b 59), eqb_tI]
@[simp] theorem ceq_t0 (a : List Int) : cmpB .Eq (tI a) (.tup []) = some (.bl (decide (a = []))) := ceq_tI a []
@[simp] theorem ceq_tT (a b : List (List Int)) : cmpB .Eq (tT a) (tT b) = some (.bl (decide (a = b))) := by rw [cmp_eq (sh_tT a 58) (sh_tT b 58), eqb_tT]
@[simp] theorem cne_tT (a b : List (List Int)) : cmpB .NotEq (tT a) (tT b) = some (.bl (!decide (a = b))) := by rw [cmp_ne (sh_tT a 58) (sh_tT b 58), eqb_tT]
@[simp] theorem ceq_lI (a b : List Int) : cmpB .Eq (.lst (a.map D.int)) (.lst (b.map D.int)) = some (.bl (decide (a = b))) := by rw [cmp_eq (a := .lst (a.map D.int)) (b := .lst (b.map D.int)) (sh_ints a 59) (sh_ints b 59), eqb_lI]
@[simp] theorem cne_lI (a b : List Int) : cmpB .NotEq (.lst (a.map D.int)) (.lst (b.map D.int)) = some (.bl (!decide (a = b))) := by rw [cmp_ne (a := .lst (a.map D.int)) (b := .lst (b.map D.int)) (sh_ints a 59) (sh_ints b 59), eqb_lI]
@[simp] theorem ceq_l0 (a : List Int) : cmpB .Eq (.lst (a.map D.int)) (.lst []) = some (.bl (decide (a = []))) := ceq_lI a []
@[simp] theorem cne_l0 (a : List Int) : cmpB .NotEq (.lst (a.map D.int)) (.lst []) = some (.bl (!decide (a = []))) := cne_lI a []
@[simp] theorem cin_lT (a : List Int) (b : List (List Int)) : cmpB .In (tI a) (.lst (b.map tI)) = some (.bl (decide (a ∈ b))) := by rw [cmp_inL (sh_tI a 59) (sh_tIs b 57), any_tI]
@[simp] theorem cni_lT (a : List Int) (b : List (List Int)) : cmpB .NotIn (tI a) (.lst (b.map tI)) = some (.bl (!decide (a ∈ b))) := by rw [cmp_niL (sh_tI a 59) (sh_tIs b 57), any_tI]
@[simp] theorem cin_tT (a : List Int) (b : List (List Int)) : cmpB .In (tI a) (tT b) = some (.bl (decide (a ∈ b))) := by
  show cmpB .In (tI a) (.tup (b.map tI)) = _
  rw [cmp_inT (sh_tI a 59) (sh_tIs b 57), any_tI]
@[simp] theorem cin_tI (a : Int) (b : List Int) : cmpB .In (.int a) (tI b) = some (.bl (decide (a ∈ b))) := by
  show cmpB .In (.int a) (.tup (b.map D.int)) = _
  rw [cmp_inT (show (D.int a).sh 60 = true from rfl) (sh_ints b 58), any_int]
section
variable {cf : Str → List D → M D} {ρ : Env} {S : Store}
theorem lcE_eq {α : Type} {vs : List Nat} {s : LI} {tg : LT} {c : LO} {e : LE} (l : List α) (f : α → D) (p : α → Bool) (g : α → D) (he : evI cf s ρ S = .ok (.fix (l.map f)) S)
    (hs : ∀ a ∈ l, ∃ ρ', asgT tg (f a) (wipeE ρ vs) = some ρ' ∧ condM (evO cf c) ρ' S = .ok (p a) S ∧ (p a = true → evE cf e ρ' S = .ok (g a) S)) : evE cf (.lc vs s tg c e) ρ S = .ok (.lst ((l.filter p).map g)) S := lc_eq l f p g he hs
theorem lcE_map {α : Type} {vs : List Nat} {s : LI} {tg : LT} {e : LE} (l : List α) (f : α → D) (g : α → D) (he : evI cf s ρ S = .ok (.fix (l.map f)) S)
    (hs : ∀ a ∈ l, ∃ ρ', asgT tg (f a) (wipeE ρ vs) = some ρ' ∧ evE cf e ρ' S = .ok (g a) S) : evE cf (.lc vs s tg .none e) ρ S = .ok (.lst (l.map g)) S := lc_map l f g he hs
end
@[simp] theorem all_m {α : Type} {S : Store} (l : List α) (p : α → Bool) : fB .all S [.lst (l.map fun a => D.bl (p a))] = some (.bl (l.all p)) := by
  have := all_l (S := S) (l.map p)
  rw [List.map_map, List.all_map] at this
  exact this
@[simp] theorem all_c {α : Type} (l : List α) : l.all (fun _ => true) = true := List.all_eq_true.mpr fun _ _ => rfl
theorem rangeD_n (n : Nat) : rangeD 0 n = (List.range n).map fun i : Nat => D.int (i : Int) := by
  unfold rangeD
  exact List.map_congr_left fun i _ => by simp
@[simp] theorem sum_m {α : Type} {S : Store} (l : List α) (f : α → Int) : fB .sum S [.lst (l.map fun a => D.int (f a))] = some (.int (l.map f).sum) := by
  have := sum_l (S := S) (l.map f)
  rw [List.map_map] at this
  exact this
theorem max_m {α : Type} {S : Store} (l : List α) (f : α → Int) (h : l ≠ []) : fB .max S [.lst (l.map fun a => D.int (f a))] = some (.int (maxL (l.map f))) := by
  have := max_l (S := S) (xs := l.map f) (by simpa using h)
  rw [List.map_map] at this
  exact this
theorem min_m {α : Type} {S : Store} (l : List α) (f : α → Int) (h : l ≠ []) : fB .min S [.lst (l.map fun a => D.int (f a))] = some (.int (minL (l.map f))) := by
  have := min_l (S := S) (xs := l.map f) (by simpa using h)
  rw [List.map_map] at this
  exact this
theorem allT {α : Type} (l : List α) : (l.map fun _ => D.bl true) = (l.map fun _ => true).map D.bl := by rw [List.map_map]; rfl
theorem allT2 {α : Type} (l : List α) : (l.map fun _ => true).all id = true := by rw [List.all_map]; exact List.all_eq_true.mpr fun _ _ => rfl
/-! ### families -/
def lotOk (n : Int) (s : List Int) : Prop := s ≠ [] ∧ (∀ x ∈ s, 0 ≤ x ∧ x ≤ n - 1) ∧ s.Pairwise (· < ·)
structure FamOk (n : Int) (ss : List (List Int)) : Prop where
  lo : 1 ≤ n
  hi : n ≤ 7
  ne : ss ≠ []
  le : ss.length ≤ 8
  lot : ∀ s ∈ ss, lotOk n s
  inc : ss.Pairwise (fun a b => HT.lexLt a b = true)
def fam (n : Int) (ss : List (List Int)) : D := .tup [.int n, tT ss]
theorem inc_len : ∀ (s : List Int) (lo : Int) (n : Nat), s.Pairwise (· < ·) → (∀ x ∈ s, lo ≤ x ∧ x < lo + n) → s.length ≤ n
  | [], _, _, _, _ => Nat.zero_le _
  | x :: xs, lo, n, hp, hb => by
    have h1 := hb x List.mem_cons_self
    obtain ⟨h2, h3⟩ := List.pairwise_cons.mp hp
    have hn : 1 ≤ n := by omega
    have := inc_len xs (lo + 1) (n - 1) h3 fun y hy => by
      have := h2 y hy
      have := hb y (List.mem_cons_of_mem _ hy)
      omega
    simp only [List.length_cons]
    omega
theorem lot_len {n : Int} {s : List Int} (h : lotOk n s) (hn : n ≤ 7) : s.length ≤ 7 := inc_len s 0 7 h.2.2 fun x hx => by
  have := h.2.1 x hx
  omega
theorem pair_next {α : Type} {R : α → α → Prop} {l : List α} (h : l.Pairwise R) {i : Nat} {a b : α} (ha : l[i]? = some a) (hb : l[i + 1]? = some b) : R a b := by
  obtain ⟨h1, e1⟩ := List.getElem?_eq_some_iff.mp ha
  obtain ⟨h2, e2⟩ := List.getElem?_eq_some_iff.mp hb
  have := List.pairwise_iff_getElem.mp h i (i + 1) h1 h2 (by omega)
  rw [e1, e2] at this
  exact this
section
variable {fs : Str → Option Fn} {k : Nat} {S : Store}
theorem rf_eq {f : Str} {F : Fn} {ds : List D} (h : fs f = some F) : runF fs (k + 1) f ds S = (exB (runF fs k) F.body (ds.map some ++ List.replicate (F.ns - ds.length) none) S).bind endF := by
  unfold runF
  rw [h]
  rfl
theorem r_is_between (h : fs "is_between" = some ⟨3, 3, b_is_between⟩) (v lo hi : Int) : runF fs (k + 1) "is_between" [.int v, .int lo, .int hi] S = .ok (.bl (decide (lo ≤ v) && decide (v ≤ hi))) S := by
  rw [rf_eq h]
  by_cases h1 : lo ≤ v
  · simp [b_is_between, e_var, e_cst, e_ty, e_gfn, e_bin, e_cmp, e_chn, e_neg, e_nt, e_one, e_and, e_or, e_ite, e_tup, e_lst, e_idx, e_slc, o_none, o_some, e_call, e_blt, e_isi, a_nil, a_cons, i_of, i_rng, c_none, c_some, s_set, s_setLc, s_asg, s_par, s_stI, s_ex, s_ret, s_if, s_rai, s_pass, b_nil, b_cons, M.opt_some, R.bind_ok, getE_0, getE_s, List.map_cons, List.map_nil, List.cons_append, List.nil_append, List.length_cons, List.length_nil, List.replicate_succ, List.replicate_zero, Nat.reduceSub, Nat.reduceAdd, List.set_cons_zero, List.set_cons_succ, Option.map_some, BT.nm, wipeE, h1]
  · simp [b_is_between, e_var, e_cst, e_ty, e_gfn, e_bin, e_cmp, e_chn, e_neg, e_nt, e_one, e_and, e_or, e_ite, e_tup, e_lst, e_idx, e_slc, o_none, o_some, e_call, e_blt, e_isi, a_nil, a_cons, i_of, i_rng, c_none, c_some, s_set, s_setLc, s_asg, s_par, s_stI, s_ex, s_ret, s_if, s_rai, s_pass, b_nil, b_cons, M.opt_some, R.bind_ok, getE_0, getE_s, List.map_cons, List.map_nil, List.cons_append, List.nil_append, List.length_cons, List.length_nil, List.replicate_succ, List.replicate_zero, Nat.reduceSub, Nat.reduceAdd, List.set_cons_zero, List.set_cons_succ, Option.map_some, BT.nm, wipeE, h1]
theorem r_is_lot (h : fs "is_between" = some ⟨3, 3, b_is_between⟩) (h' : fs "is_lot" = some ⟨2, 4, b_is_lot⟩) {n : Int} {s : List Int} (hs : lotOk n s) (hn : n ≤ 7) : runF fs (k + 2) "is_lot" [.int n, tI s] S = .ok (.bl true) S := by
  rw [rf_eq h']
  have hl := lot_len hs hn
  simp [b_is_lot, e_var, e_cst, e_ty, e_gfn, e_bin, e_cmp, e_chn, e_neg, e_nt, e_one, e_and, e_or, e_ite, e_tup, e_lst, e_idx, e_slc, o_none, o_some, e_call, e_blt, e_isi, a_nil, a_cons, i_of, i_rng, c_none, c_some, s_set, s_setLc, s_asg, s_par, s_stI, s_ex, s_ret, s_if, s_rai, s_pass, b_nil, b_cons, M.opt_some, R.bind_ok, getE_0, getE_s, List.map_cons, List.map_nil, List.cons_append, List.nil_append, List.length_cons, List.length_nil, List.replicate_succ, List.replicate_zero, Nat.reduceSub, Nat.reduceAdd, List.set_cons_zero, List.set_cons_succ, Option.map_some, BT.nm, wipeE, hs.1]
  rw [lcE_map s D.int (fun x => D.bl true) (by simp [e_var, e_cst, e_ty, e_gfn, e_bin, e_cmp, e_chn, e_neg, e_nt, e_one, e_and, e_or, e_ite, e_tup, e_lst, e_idx, e_slc, o_none, o_some, e_call, e_blt, e_isi, a_nil, a_cons, i_of, i_rng, c_none, c_some, s_set, s_setLc, s_asg, s_par, s_stI, s_ex, s_ret, s_if, s_rai, s_pass, b_nil, b_cons, M.opt_some, R.bind_ok, getE_0, getE_s, List.map_cons, List.map_nil, List.cons_append, List.nil_append, List.length_cons, List.length_nil, List.replicate_succ, List.replicate_zero, Nat.reduceSub, Nat.reduceAdd, List.set_cons_zero, List.set_cons_succ, Option.map_some, BT.nm, wipeE]) (fun x hx => ⟨_, rfl, by
    have := hs.2.1 x hx
    simp [e_var, e_cst, e_ty, e_gfn, e_bin, e_cmp, e_chn, e_neg, e_nt, e_one, e_and, e_or, e_ite, e_tup, e_lst, e_idx, e_slc, o_none, o_some, e_call, e_blt, e_isi, a_nil, a_cons, i_of, i_rng, c_none, c_some, s_set, s_setLc, s_asg, s_par, s_stI, s_ex, s_ret, s_if, s_rai, s_pass, b_nil, b_cons, M.opt_some, R.bind_ok, getE_0, getE_s, List.map_cons, List.map_nil, List.cons_append, List.nil_append, List.length_cons, List.length_nil, List.replicate_succ, List.replicate_zero, Nat.reduceSub, Nat.reduceAdd, List.set_cons_zero, List.set_cons_succ, Option.map_some, BT.nm, wipeE, wipeE, r_is_between h, this.1, this.2]⟩)]
  simp [e_var, e_cst, e_ty, e_gfn, e_bin, e_cmp, e_chn, e_neg, e_nt, e_one, e_and, e_or, e_ite, e_tup, e_lst, e_idx, e_slc, o_none, o_some, e_call, e_blt, e_isi, a_nil, a_cons, i_of, i_rng, c_none, c_some, s_set, s_setLc, s_asg, s_par, s_stI, s_ex, s_ret, s_if, s_rai, s_pass, b_nil, b_cons, M.opt_some, R.bind_ok, getE_0, getE_s, List.map_cons, List.map_nil, List.cons_append, List.nil_append, List.length_cons, List.length_nil, List.replicate_succ, List.replicate_zero, Nat.reduceSub, Nat.reduceAdd, List.set_cons_zero, List.set_cons_succ, Option.map_some, BT.nm, wipeE]
  have hne : s.length ≠ 0 := fun z => hs.1 (List.length_eq_zero_iff.mp z)
  rw [lcE_map (List.range (s.length - 1)) (fun i : Nat => D.int (i : Int)) (fun x => D.bl true) (by
    simp [e_var, e_cst, e_ty, e_gfn, e_bin, e_cmp, e_chn, e_neg, e_nt, e_one, e_and, e_or, e_ite, e_tup, e_lst, e_idx, e_slc, o_none, o_some, e_call, e_blt, e_isi, a_nil, a_cons, i_of, i_rng, c_none, c_some, s_set, s_setLc, s_asg, s_par, s_stI, s_ex, s_ret, s_if, s_rai, s_pass, b_nil, b_cons, M.opt_some, R.bind_ok, getE_0, getE_s, List.map_cons, List.map_nil, List.cons_append, List.nil_append, List.length_cons, List.length_nil, List.replicate_succ, List.replicate_zero, Nat.reduceSub, Nat.reduceAdd, List.set_cons_zero, List.set_cons_succ, Option.map_some, BT.nm, wipeE]
    rw [rng_1 (by omega)]
    rw [show ((s.length : Int) - 1).toNat = s.length - 1 by omega, rangeD_n]
    simp) (fun i hx => ⟨_, rfl, by
      have hi := List.mem_range.mp hx
      have e1 : s[i]? = some s[i] := List.getElem?_eq_getElem (by omega)
      have e2 : s[i + 1]? = some s[i + 1] := List.getElem?_eq_getElem (by omega)
      have hlt := pair_next hs.2.2 e1 e2
      have a1 : atI (s.map D.int) (i : Int) = some (.int s[i]) := atI_of rfl (by rw [List.getElem?_map, e1]; rfl)
      have a2 : atI (s.map D.int) ((i : Int) + 1) = some (.int s[i + 1]) := atI_of (j := i + 1) (by omega) (by rw [List.getElem?_map, e2]; rfl)
      simp [e_var, e_cst, e_ty, e_gfn, e_bin, e_cmp, e_chn, e_neg, e_nt, e_one, e_and, e_or, e_ite, e_tup, e_lst, e_idx, e_slc, o_none, o_some, e_call, e_blt, e_isi, a_nil, a_cons, i_of, i_rng, c_none, c_some, s_set, s_setLc, s_asg, s_par, s_stI, s_ex, s_ret, s_if, s_rai, s_pass, b_nil, b_cons, M.opt_some, R.bind_ok, getE_0, getE_s, List.map_cons, List.map_nil, List.cons_append, List.nil_append, List.length_cons, List.length_nil, List.replicate_succ, List.replicate_zero, Nat.reduceSub, Nat.reduceAdd, List.set_cons_zero, List.set_cons_succ, Option.map_some, BT.nm, wipeE, wipeE, tI, a1, a2, hlt]⟩)]
  simp [e_var, e_cst, e_ty, e_gfn, e_bin, e_cmp, e_chn, e_neg, e_nt, e_one, e_and, e_or, e_ite, e_tup, e_lst, e_idx, e_slc, o_none, o_some, e_call, e_blt, e_isi, a_nil, a_cons, i_of, i_rng, c_none, c_some, s_set, s_setLc, s_asg, s_par, s_stI, s_ex, s_ret, s_if, s_rai, s_pass, b_nil, b_cons, M.opt_some, R.bind_ok, getE_0, getE_s, List.map_cons, List.map_nil, List.cons_append, List.nil_append, List.length_cons, List.length_nil, List.replicate_succ, List.replicate_zero, Nat.reduceSub, Nat.reduceAdd, List.set_cons_zero, List.set_cons_succ, Option.map_some, BT.nm, wipeE]
theorem r_is_family (h : fs "is_between" = some ⟨3, 3, b_is_between⟩) (h' : fs "is_lot" = some ⟨2, 4, b_is_lot⟩) (h2 : fs "is_family" = some ⟨1, 5, b_is_family⟩) {n : Int} {ss : List (List Int)} (F : FamOk n ss) : runF fs (k + 3) "is_family" [fam n ss] S = .ok (.bl true) S := by
  rw [rf_eq h2]
  have hl := F.le
  have hlo := F.lo
  have hhi := F.hi
  have hne : ss.length ≠ 0 := fun z => F.ne (List.length_eq_zero_iff.mp z)
  have c1 : (1 : Int) ≤ ss.length := by omega
  have c2 : (ss.length : Int) ≤ 8 := by omega
  simp [b_is_family, e_var, e_cst, e_ty, e_gfn, e_bin, e_cmp, e_chn, e_neg, e_nt, e_one, e_and, e_or, e_ite, e_tup, e_lst, e_idx, e_slc, o_none, o_some, e_call, e_blt, e_isi, a_nil, a_cons, i_of, i_rng, c_none, c_some, s_set, s_setLc, s_asg, s_par, s_stI, s_ex, s_ret, s_if, s_rai, s_pass, b_nil, b_cons, M.opt_some, R.bind_ok, getE_0, getE_s, List.map_cons, List.map_nil, List.cons_append, List.nil_append, List.length_cons, List.length_nil, List.replicate_succ, List.replicate_zero, Nat.reduceSub, Nat.reduceAdd, List.set_cons_zero, List.set_cons_succ, Option.map_some, BT.nm, wipeE, fam, r_is_between h, hlo, hhi, c1, c2]
  rw [lcE_map ss tI (fun x => D.bl true) (by simp [e_var, e_cst, e_ty, e_gfn, e_bin, e_cmp, e_chn, e_neg, e_nt, e_one, e_and, e_or, e_ite, e_tup, e_lst, e_idx, e_slc, o_none, o_some, e_call, e_blt, e_isi, a_nil, a_cons, i_of, i_rng, c_none, c_some, s_set, s_setLc, s_asg, s_par, s_stI, s_ex, s_ret, s_if, s_rai, s_pass, b_nil, b_cons, M.opt_some, R.bind_ok, getE_0, getE_s, List.map_cons, List.map_nil, List.cons_append, List.nil_append, List.length_cons, List.length_nil, List.replicate_succ, List.replicate_zero, Nat.reduceSub, Nat.reduceAdd, List.set_cons_zero, List.set_cons_succ, Option.map_some, BT.nm, wipeE]) (fun x hx => ⟨_, rfl, by
    simp [e_var, e_cst, e_ty, e_gfn, e_bin, e_cmp, e_chn, e_neg, e_nt, e_one, e_and, e_or, e_ite, e_tup, e_lst, e_idx, e_slc, o_none, o_some, e_call, e_blt, e_isi, a_nil, a_cons, i_of, i_rng, c_none, c_some, s_set, s_setLc, s_asg, s_par, s_stI, s_ex, s_ret, s_if, s_rai, s_pass, b_nil, b_cons, M.opt_some, R.bind_ok, getE_0, getE_s, List.map_cons, List.map_nil, List.cons_append, List.nil_append, List.length_cons, List.length_nil, List.replicate_succ, List.replicate_zero, Nat.reduceSub, Nat.reduceAdd, List.set_cons_zero, List.set_cons_succ, Option.map_some, BT.nm, wipeE, r_is_lot h h' (F.lot x hx) hhi]⟩)]
  simp [e_var, e_cst, e_ty, e_gfn, e_bin, e_cmp, e_chn, e_neg, e_nt, e_one, e_and, e_or, e_ite, e_tup, e_lst, e_idx, e_slc, o_none, o_some, e_call, e_blt, e_isi, a_nil, a_cons, i_of, i_rng, c_none, c_some, s_set, s_setLc, s_asg, s_par, s_stI, s_ex, s_ret, s_if, s_rai, s_pass, b_nil, b_cons, M.opt_some, R.bind_ok, getE_0, getE_s, List.map_cons, List.map_nil, List.cons_append, List.nil_append, List.length_cons, List.length_nil, List.replicate_succ, List.replicate_zero, Nat.reduceSub, Nat.reduceAdd, List.set_cons_zero, List.set_cons_succ, Option.map_some, BT.nm, wipeE]
  rw [lcE_map (List.range (ss.length - 1)) (fun i : Nat => D.int (i : Int)) (fun x => D.bl true) (by
    simp [e_var, e_cst, e_ty, e_gfn, e_bin, e_cmp, e_chn, e_neg, e_nt, e_one, e_and, e_or, e_ite, e_tup, e_lst, e_idx, e_slc, o_none, o_some, e_call, e_blt, e_isi, a_nil, a_cons, i_of, i_rng, c_none, c_some, s_set, s_setLc, s_asg, s_par, s_stI, s_ex, s_ret, s_if, s_rai, s_pass, b_nil, b_cons, M.opt_some, R.bind_ok, getE_0, getE_s, List.map_cons, List.map_nil, List.cons_append, List.nil_append, List.length_cons, List.length_nil, List.replicate_succ, List.replicate_zero, Nat.reduceSub, Nat.reduceAdd, List.set_cons_zero, List.set_cons_succ, Option.map_some, BT.nm, wipeE]
    rw [rng_1 (by omega)]
    rw [show ((ss.length : Int) - 1).toNat = ss.length - 1 by omega, rangeD_n]
    simp) (fun i hx => ⟨_, rfl, by
      have hi := List.mem_range.mp hx
      have e1 : ss[i]? = some ss[i] := List.getElem?_eq_getElem (by omega)
      have e2 : ss[i + 1]? = some ss[i + 1] := List.getElem?_eq_getElem (by omega)
      have hlt := pair_next F.inc e1 e2
      have a1 : atI (ss.map tI) (i : Int) = some (tI ss[i]) := atI_of rfl (by rw [List.getElem?_map, e1]; rfl)
      have a2 : atI (ss.map tI) ((i : Int) + 1) = some (tI ss[i + 1]) := atI_of (j := i + 1) (by omega) (by rw [List.getElem?_map, e2]; rfl)
      simp [e_var, e_cst, e_ty, e_gfn, e_bin, e_cmp, e_chn, e_neg, e_nt, e_one, e_and, e_or, e_ite, e_tup, e_lst, e_idx, e_slc, o_none, o_some, e_call, e_blt, e_isi, a_nil, a_cons, i_of, i_rng, c_none, c_some, s_set, s_setLc, s_asg, s_par, s_stI, s_ex, s_ret, s_if, s_rai, s_pass, b_nil, b_cons, M.opt_some, R.bind_ok, getE_0, getE_s, List.map_cons, List.map_nil, List.cons_append, List.nil_append, List.length_cons, List.length_nil, List.replicate_succ, List.replicate_zero, Nat.reduceSub, Nat.reduceAdd, List.set_cons_zero, List.set_cons_succ, Option.map_some, BT.nm, wipeE, tT, a1, a2, hlt]⟩)]
  simp [e_var, e_cst, e_ty, e_gfn, e_bin, e_cmp, e_chn, e_neg, e_nt, e_one, e_and, e_or, e_ite, e_tup, e_lst, e_idx, e_slc, o_none, o_some, e_call, e_blt, e_isi, a_nil, a_cons, i_of, i_rng, c_none, c_some, s_set, s_setLc, s_asg, s_par, s_stI, s_ex, s_ret, s_if, s_rai, s_pass, b_nil, b_cons, M.opt_some, R.bind_ok, getE_0, getE_s, List.map_cons, List.map_nil, List.cons_append, List.nil_append, List.length_cons, List.length_nil, List.replicate_succ, List.replicate_zero, Nat.reduceSub, Nat.reduceAdd, List.set_cons_zero, List.set_cons_succ, Option.map_some, BT.nm, wipeE]
end
/-- the text's defs that judge a family -/
structure HasF (fs : Str → Option Fn) : Prop where
  bet : fs "is_between" = some ⟨3, 3, b_is_between⟩
  lot : fs "is_lot" = some ⟨2, 4, b_is_lot⟩
  fam : fs "is_family" = some ⟨1, 5, b_is_family⟩
  chk : fs "check_family" = some ⟨1, 1, b_check_family⟩
section
variable {fs : Str → Option Fn} {k : Nat} {S : Store} {n : Int} {ss : List (List Int)}
theorem r_check_family (h : HasF fs) (F : FamOk n ss) : runF fs (k + 4) "check_family" [fam n ss] S = .ok .non S := by
  rw [rf_eq h.chk]
  simp [b_check_family, e_var, e_cst, e_ty, e_gfn, e_bin, e_cmp, e_chn, e_neg, e_nt, e_one, e_and, e_or, e_ite, e_tup, e_lst, e_idx, e_slc, o_none, o_some, e_call, e_blt, e_isi, a_nil, a_cons, i_of, i_rng, c_none, c_some, s_set, s_setLc, s_asg, s_par, s_stI, s_ex, s_ret, s_if, s_rai, s_pass, b_nil, b_cons, M.opt_some, R.bind_ok, getE_0, getE_s, List.map_cons, List.map_nil, List.cons_append, List.nil_append, List.length_cons, List.length_nil, List.replicate_succ, List.replicate_zero, Nat.reduceSub, Nat.reduceAdd, List.set_cons_zero, List.set_cons_succ, Option.map_some, BT.nm, wipeE, r_is_family h.bet h.lot h.fam F]
end
/-! ### colours -/
def hueOk (n : Int) (h : List Int) : Prop := (h.length : Int) = n ∧ ∀ x ∈ h, x = -1 ∨ x = 1
def ssum (h : List Int) (s : List Int) : Int := (s.map fun i => h.getD i.toNat 0).sum
def iabs (i : Int) : Int := if i < 0 then -i else i
def unev (h : List Int) (ss : List (List Int)) : Int := maxL (ss.map fun s => iabs (ssum h s))
def rows : Nat → List (List Int)
  | 0 => [[]]
  | n + 1 => (rows n).flatMap fun r => [r ++ [-1], r ++ [1]]
def least (n : Nat) (ss : List (List Int)) : Int := minL ((rows n).map fun h => unev h ss)
theorem rows_len : ∀ n, (rows n).length = 2 ^ n
  | 0 => rfl
  | n + 1 => by
    show ((rows n).flatMap _).length = _
    rw [List.length_flatMap]
    simp only [List.length_cons, List.length_nil, List.map_const', List.sum_replicate_nat]
    rw [rows_len n, Nat.pow_succ]
theorem rows_ok : ∀ n h, h ∈ rows n ↔ h.length = n ∧ ∀ x ∈ h, x = -1 ∨ x = 1
  | 0, h => by
    constructor
    · intro z
      have : h = [] := by simpa [rows] using z
      subst this
      exact ⟨rfl, fun x hx => by cases hx⟩
    · rintro ⟨z, _⟩
      have := List.length_eq_zero_iff.mp z
      subst this
      simp [rows]
  | n + 1, h => by
    have e : rows (n + 1) = (rows n).flatMap fun r => [r ++ [-1], r ++ [1]] := rfl
    rw [e, List.mem_flatMap]
    constructor
    · rintro ⟨r, hr, hh⟩
      obtain ⟨l, a⟩ := (rows_ok n r).mp hr
      simp only [List.mem_cons, List.not_mem_nil, or_false] at hh
      rcases hh with rfl | rfl
      · refine ⟨by simp [l], fun x hx => ?_⟩
        rcases List.mem_append.mp hx with hx | hx
        · exact a x hx
        · simp at hx; exact .inl hx
      · refine ⟨by simp [l], fun x hx => ?_⟩
        rcases List.mem_append.mp hx with hx | hx
        · exact a x hx
        · simp at hx; exact .inr hx
    · rintro ⟨l, a⟩
      have hne : h ≠ [] := by rintro rfl; cases l
      have e2 := List.dropLast_concat_getLast hne
      refine ⟨h.dropLast, (rows_ok n _).mpr ⟨by simp [l], fun x hx => a x (List.dropLast_subset _ hx)⟩, ?_⟩
      rcases a _ (List.getLast_mem hne) with q | q
      · rw [q] at e2
        rw [e2]; simp
      · rw [q] at e2
        rw [e2]; simp
theorem rows_ne (n : Nat) : rows n ≠ [] := fun z => by
  have := rows_len n
  rw [z] at this
  have : 0 < 2 ^ n := Nat.pow_pos (by decide)
  simp at *
  omega
theorem at_hue {h : List Int} {i : Int} (h0 : 0 ≤ i) (h1 : i < h.length) : atI (h.map D.int) i = some (.int (h.getD i.toNat 0)) := by
  have hi : i.toNat < h.length := by omega
  refine atI_of (j := i.toNat) (by omega) ?_
  rw [List.getElem?_map, List.getElem?_eq_getElem hi]
  simp [List.getD, List.getElem?_eq_getElem hi]
theorem lc2E_eq {cf : Str → List D → M D} {ρ : Env} {S : Store} {α β : Type} {vs vs1 : List Nat} {s s1 : LI} {tg tg1 : LT} {e : LE} (l : List α) (f : α → D) (l2 : List β) (f2 : β → D) (g : α → β → D) (he : evI cf s ρ S = .ok (.fix (l.map f)) S)
    (hs : ∀ a ∈ l, ∃ ρ', asgT tg (f a) (wipeE ρ vs) = some ρ' ∧ evI cf s1 ρ' S = .ok (.fix (l2.map f2)) S ∧ ∀ b ∈ l2, ∃ ρ2, asgT tg1 (f2 b) (wipeE ρ' vs1) = some ρ2 ∧ evE cf e ρ2 S = .ok (g a b) S) (hl : l.length * l2.length < line) :
    evE cf (.lc2 vs vs1 s tg .none s1 tg1 .none e) ρ S = .ok (.lst (l.flatMap fun a => l2.map (g a))) S := by
  show (evI cf s ρ S).bind (fun s => M.bind (walkAll s (lcBody2 vs vs1 tg none (evI cf s1) tg1 none (evE cf e) ρ) []) fun ys => M.pure (LC.D.lst ys)) = _
  rw [he]
  have h1 : Wp (walkAll (.fix (l.map f)) (lcBody2 vs vs1 tg none (evI cf s1) tg1 none (evE cf e) ρ) [] S) (fun ys S' => S' = S ∧ ys = (l.take (l.map f).length).flatMap fun a => l2.map (g a)) := by
    refine wp_walkAll (fun i acc S' => S' = S ∧ acc = (l.take i).flatMap fun a => l2.map (g a)) ⟨rfl, rfl⟩ fun i d acc S' hx hI => ?_
    obtain ⟨rfl, rfl⟩ := hI
    rw [List.getElem?_map] at hx
    cases q : l[i]? with
    | none => rw [q] at hx; cases hx
    | some a =>
      rw [q] at hx
      cases hx
      obtain ⟨ρ', e1, e2, e3⟩ := hs a (List.mem_of_getElem? q)
      have et : l.take (i + 1) = l.take i ++ [a] := by rw [List.take_add_one, q]; rfl
      have hi := (List.getElem?_eq_some_iff.mp q).1
      unfold lcBody2
      rw [e1]
      refine Wp.bind (Wp.nox (Wp.ok ?_))
      rw [if_pos rfl]
      refine Wp.bind (Wp.nox (Wp.of e2 ?_))
      have h2 : Wp (walkAll (.fix (l2.map f2)) (lcBody1 vs1 tg1 none (evE cf e) ρ') ((l.take i).flatMap fun a => l2.map (g a)) S') (fun ys S2 => S2 = S' ∧ ys = ((l.take i).flatMap fun a => l2.map (g a)) ++ (l2.take (l2.map f2).length).map (g a)) := by
        refine wp_walkAll (fun j acc S2 => S2 = S' ∧ acc = ((l.take i).flatMap fun a => l2.map (g a)) ++ (l2.take j).map (g a)) ⟨rfl, by simp⟩ fun j d acc S2 hx2 hI2 => ?_
        obtain ⟨rfl, rfl⟩ := hI2
        rw [List.getElem?_map] at hx2
        cases q2 : l2[j]? with
        | none => rw [q2] at hx2; cases hx2
        | some b =>
          rw [q2] at hx2
          cases hx2
          obtain ⟨ρ2, e4, e5⟩ := e3 b (List.mem_of_getElem? q2)
          have et2 : l2.take (j + 1) = l2.take j ++ [b] := by rw [List.take_add_one, q2]; rfl
          have hj := (List.getElem?_eq_some_iff.mp q2).1
          unfold lcBody1
          rw [e4]
          refine Wp.bind (Wp.nox (Wp.ok ?_))
          rw [if_pos rfl]
          refine Wp.bind (Wp.nox (Wp.of e5 ?_))
          have hlen : (((l.take i).flatMap fun a => l2.map (g a)) ++ (l2.take j).map (g a)).length < line := by
            refine Nat.lt_of_le_of_lt ?_ hl
            rw [List.length_append, List.length_flatMap, List.length_map, List.length_take]
            simp only [List.length_map]
            rw [List.map_const', List.sum_replicate_nat, List.length_take]
            have : (min i l.length + 1) * l2.length ≤ l.length * l2.length := Nat.mul_le_mul_right _ (by omega)
            rw [Nat.add_mul] at this
            omega
          rw [if_pos hlen]
          refine Wp.ok ⟨rfl, ?_⟩
          rw [et2, List.map_append, List.append_assoc]
          rfl
      refine h2.mono fun ys S2 h => ?_
      obtain ⟨h3, h4⟩ := h
      refine ⟨h3, ?_⟩
      rw [h4, et, List.flatMap_append, List.length_map, List.take_length]
      simp
  obtain ⟨ys, S', e1, e2, e3⟩ := h1.get
  subst e2
  subst e3
  show (walkAll (.fix (l.map f)) (lcBody2 vs vs1 tg none (evI cf s1) tg1 none (evE cf e) ρ) [] S').bind _ = _
  rw [e1, List.length_map, List.take_length]
  rfl
end LC

set_option maxHeartbeats 4000000
/-! P3: sums, the least, all colours. -/
namespace LC
open PySem PySem.Spec PyProof.Rows L2
structure HasC (fs : Str → Option Fn) : Prop extends HasF fs where
  sums : fs "found_sums" = some ⟨2, 4, b_found_sums⟩
  unev : fs "found_uneven" = some ⟨2, 3, b_found_uneven⟩
  allc : fs "all_colours" = some ⟨1, 5, b_all_colours⟩
  flst : fs "found_least" = some ⟨1, 2, b_found_least⟩
section
variable {fs : Str → Option Fn} {k : Nat} {S : Store} {n : Int} {ss : List (List Int)}
theorem tI_map {α : Type} (l : List α) (f : α → Int) : D.tup (l.map fun a => D.int (f a)) = tI (l.map f) := by
  unfold tI; rw [List.map_map]; rfl
theorem r_sums {x : Str} (h : fs x = some ⟨2, 4, b_found_sums⟩) {c : List Int} (F : FamOk n ss) (hc : (c.length : Int) = n) : runF fs (k + 1) x [fam n ss, tI c] S = .ok (tI (ss.map (ssum c))) S := by
  rw [rf_eq h]
  simp [b_found_sums, e_var, e_cst, e_ty, e_gfn, e_bin, e_cmp, e_chn, e_neg, e_nt, e_one, e_and, e_or, e_ite, e_tup, e_lst, e_idx, e_slc, o_none, o_some, e_call, e_blt, e_isi, a_nil, a_cons, i_of, i_rng, c_none, c_some, s_set, s_setLc, s_asg, s_par, s_stI, s_ex, s_ret, s_if, s_rai, s_pass, b_nil, b_cons, M.opt_some, R.bind_ok, getE_0, getE_s, List.map_cons, List.map_nil, List.cons_append, List.nil_append, List.length_cons, List.length_nil, List.replicate_succ, List.replicate_zero, Nat.reduceSub, Nat.reduceAdd, List.set_cons_zero, List.set_cons_succ, Option.map_some, BT.nm, wipeE, seqK_n, seqK_r, andK_t, andK_f, orK_f, orK_t, iteK_t, iteK_f, asgK_nm, asgK_t2, asgK_t3, endF_n, endF_r, slI_i, toBl_b, vw_i, vw_b, vw_t, vw_tI, vw_tT, vw_l, vw_s, vw_n, vw_ty, src_t, src_tI, src_tT, src_l, bin_add, bin_sub, neg_i, not_b, fam]
  rw [lcE_map ss tI (fun s => D.int (ssum c s)) (by simp [e_var, e_cst, e_ty, e_gfn, e_bin, e_cmp, e_chn, e_neg, e_nt, e_one, e_and, e_or, e_ite, e_tup, e_lst, e_idx, e_slc, o_none, o_some, e_call, e_blt, e_isi, a_nil, a_cons, i_of, i_rng, c_none, c_some, s_set, s_setLc, s_asg, s_par, s_stI, s_ex, s_ret, s_if, s_rai, s_pass, b_nil, b_cons, M.opt_some, R.bind_ok, getE_0, getE_s, List.map_cons, List.map_nil, List.cons_append, List.nil_append, List.length_cons, List.length_nil, List.replicate_succ, List.replicate_zero, Nat.reduceSub, Nat.reduceAdd, List.set_cons_zero, List.set_cons_succ, Option.map_some, BT.nm, wipeE, seqK_n, seqK_r, andK_t, andK_f, orK_f, orK_t, iteK_t, iteK_f, asgK_nm, asgK_t2, asgK_t3, endF_n, endF_r, slI_i, toBl_b, vw_i, vw_b, vw_t, vw_tI, vw_tT, vw_l, vw_s, vw_n, vw_ty, src_t, src_tI, src_tT, src_l, bin_add, bin_sub, neg_i, not_b]) (fun s hs => ⟨_, rfl, by
    simp [e_var, e_cst, e_ty, e_gfn, e_bin, e_cmp, e_chn, e_neg, e_nt, e_one, e_and, e_or, e_ite, e_tup, e_lst, e_idx, e_slc, o_none, o_some, e_call, e_blt, e_isi, a_nil, a_cons, i_of, i_rng, c_none, c_some, s_set, s_setLc, s_asg, s_par, s_stI, s_ex, s_ret, s_if, s_rai, s_pass, b_nil, b_cons, M.opt_some, R.bind_ok, getE_0, getE_s, List.map_cons, List.map_nil, List.cons_append, List.nil_append, List.length_cons, List.length_nil, List.replicate_succ, List.replicate_zero, Nat.reduceSub, Nat.reduceAdd, List.set_cons_zero, List.set_cons_succ, Option.map_some, BT.nm, wipeE, seqK_n, seqK_r, andK_t, andK_f, orK_f, orK_t, iteK_t, iteK_f, asgK_nm, asgK_t2, asgK_t3, endF_n, endF_r, slI_i, toBl_b, vw_i, vw_b, vw_t, vw_tI, vw_tT, vw_l, vw_s, vw_n, vw_ty, src_t, src_tI, src_tT, src_l, bin_add, bin_sub, neg_i, not_b]
    rw [lcE_map s D.int (fun i => D.int (c.getD i.toNat 0)) (by simp [e_var, e_cst, e_ty, e_gfn, e_bin, e_cmp, e_chn, e_neg, e_nt, e_one, e_and, e_or, e_ite, e_tup, e_lst, e_idx, e_slc, o_none, o_some, e_call, e_blt, e_isi, a_nil, a_cons, i_of, i_rng, c_none, c_some, s_set, s_setLc, s_asg, s_par, s_stI, s_ex, s_ret, s_if, s_rai, s_pass, b_nil, b_cons, M.opt_some, R.bind_ok, getE_0, getE_s, List.map_cons, List.map_nil, List.cons_append, List.nil_append, List.length_cons, List.length_nil, List.replicate_succ, List.replicate_zero, Nat.reduceSub, Nat.reduceAdd, List.set_cons_zero, List.set_cons_succ, Option.map_some, BT.nm, wipeE, seqK_n, seqK_r, andK_t, andK_f, orK_f, orK_t, iteK_t, iteK_f, asgK_nm, asgK_t2, asgK_t3, endF_n, endF_r, slI_i, toBl_b, vw_i, vw_b, vw_t, vw_tI, vw_tT, vw_l, vw_s, vw_n, vw_ty, src_t, src_tI, src_tT, src_l, bin_add, bin_sub, neg_i, not_b]) (fun i hi => ⟨_, rfl, by
      have hb := (F.lot s hs).2.1 i hi
      simp [e_var, e_cst, e_ty, e_gfn, e_bin, e_cmp, e_chn, e_neg, e_nt, e_one, e_and, e_or, e_ite, e_tup, e_lst, e_idx, e_slc, o_none, o_some, e_call, e_blt, e_isi, a_nil, a_cons, i_of, i_rng, c_none, c_some, s_set, s_setLc, s_asg, s_par, s_stI, s_ex, s_ret, s_if, s_rai, s_pass, b_nil, b_cons, M.opt_some, R.bind_ok, getE_0, getE_s, List.map_cons, List.map_nil, List.cons_append, List.nil_append, List.length_cons, List.length_nil, List.replicate_succ, List.replicate_zero, Nat.reduceSub, Nat.reduceAdd, List.set_cons_zero, List.set_cons_succ, Option.map_some, BT.nm, wipeE, seqK_n, seqK_r, andK_t, andK_f, orK_f, orK_t, iteK_t, iteK_f, asgK_nm, asgK_t2, asgK_t3, endF_n, endF_r, slI_i, toBl_b, vw_i, vw_b, vw_t, vw_tI, vw_tT, vw_l, vw_s, vw_n, vw_ty, src_t, src_tI, src_tT, src_l, bin_add, bin_sub, neg_i, not_b, tI]
      rw [at_hue hb.1 (by omega)]
      simp⟩)]
    simp [e_var, e_cst, e_ty, e_gfn, e_bin, e_cmp, e_chn, e_neg, e_nt, e_one, e_and, e_or, e_ite, e_tup, e_lst, e_idx, e_slc, o_none, o_some, e_call, e_blt, e_isi, a_nil, a_cons, i_of, i_rng, c_none, c_some, s_set, s_setLc, s_asg, s_par, s_stI, s_ex, s_ret, s_if, s_rai, s_pass, b_nil, b_cons, M.opt_some, R.bind_ok, getE_0, getE_s, List.map_cons, List.map_nil, List.cons_append, List.nil_append, List.length_cons, List.length_nil, List.replicate_succ, List.replicate_zero, Nat.reduceSub, Nat.reduceAdd, List.set_cons_zero, List.set_cons_succ, Option.map_some, BT.nm, wipeE, seqK_n, seqK_r, andK_t, andK_f, orK_f, orK_t, iteK_t, iteK_f, asgK_nm, asgK_t2, asgK_t3, endF_n, endF_r, slI_i, toBl_b, vw_i, vw_b, vw_t, vw_tI, vw_tT, vw_l, vw_s, vw_n, vw_ty, src_t, src_tI, src_tT, src_l, bin_add, bin_sub, neg_i, not_b, ssum]⟩)]
  simp [e_var, e_cst, e_ty, e_gfn, e_bin, e_cmp, e_chn, e_neg, e_nt, e_one, e_and, e_or, e_ite, e_tup, e_lst, e_idx, e_slc, o_none, o_some, e_call, e_blt, e_isi, a_nil, a_cons, i_of, i_rng, c_none, c_some, s_set, s_setLc, s_asg, s_par, s_stI, s_ex, s_ret, s_if, s_rai, s_pass, b_nil, b_cons, M.opt_some, R.bind_ok, getE_0, getE_s, List.map_cons, List.map_nil, List.cons_append, List.nil_append, List.length_cons, List.length_nil, List.replicate_succ, List.replicate_zero, Nat.reduceSub, Nat.reduceAdd, List.set_cons_zero, List.set_cons_succ, Option.map_some, BT.nm, wipeE, seqK_n, seqK_r, andK_t, andK_f, orK_f, orK_t, iteK_t, iteK_f, asgK_nm, asgK_t2, asgK_t3, endF_n, endF_r, slI_i, toBl_b, vw_i, vw_b, vw_t, vw_tI, vw_tT, vw_l, vw_s, vw_n, vw_ty, src_t, src_tI, src_tT, src_l, bin_add, bin_sub, neg_i, not_b]
  exact tI_map ss (ssum c)
theorem r_uneven {x y : Str} {b : LB} (hb : b = .cons (.ret (.blt .max (.cons (.lc [2] (.of (.call y (.cons (.var 0) (.cons (.var 1) .nil)))) (.nm 2) .none (.blt .abs (.cons (.var 2) .nil))) .nil))) .nil) (h0 : fs y = some ⟨2, 4, b_found_sums⟩) (h : fs x = some ⟨2, 3, b⟩) {c : List Int} (F : FamOk n ss) (hc : (c.length : Int) = n) :
    runF fs (k + 2) x [fam n ss, tI c] S = .ok (.int (unev c ss)) S := by
  rw [rf_eq h]
  simp [hb, e_var, e_cst, e_ty, e_gfn, e_bin, e_cmp, e_chn, e_neg, e_nt, e_one, e_and, e_or, e_ite, e_tup, e_lst, e_idx, e_slc, o_none, o_some, e_call, e_blt, e_isi, a_nil, a_cons, i_of, i_rng, c_none, c_some, s_set, s_setLc, s_asg, s_par, s_stI, s_ex, s_ret, s_if, s_rai, s_pass, b_nil, b_cons, M.opt_some, R.bind_ok, getE_0, getE_s, List.map_cons, List.map_nil, List.cons_append, List.nil_append, List.length_cons, List.length_nil, List.replicate_succ, List.replicate_zero, Nat.reduceSub, Nat.reduceAdd, List.set_cons_zero, List.set_cons_succ, Option.map_some, BT.nm, wipeE, seqK_n, seqK_r, andK_t, andK_f, orK_f, orK_t, iteK_t, iteK_f, asgK_nm, asgK_t2, asgK_t3, endF_n, endF_r, slI_i, toBl_b, vw_i, vw_b, vw_t, vw_tI, vw_tT, vw_l, vw_s, vw_n, vw_ty, src_t, src_tI, src_tT, src_l, bin_add, bin_sub, neg_i, not_b]
  rw [lcE_map (ss.map (ssum c)) D.int (fun i => D.int (iabs i)) (by simp [e_var, e_cst, e_ty, e_gfn, e_bin, e_cmp, e_chn, e_neg, e_nt, e_one, e_and, e_or, e_ite, e_tup, e_lst, e_idx, e_slc, o_none, o_some, e_call, e_blt, e_isi, a_nil, a_cons, i_of, i_rng, c_none, c_some, s_set, s_setLc, s_asg, s_par, s_stI, s_ex, s_ret, s_if, s_rai, s_pass, b_nil, b_cons, M.opt_some, R.bind_ok, getE_0, getE_s, List.map_cons, List.map_nil, List.cons_append, List.nil_append, List.length_cons, List.length_nil, List.replicate_succ, List.replicate_zero, Nat.reduceSub, Nat.reduceAdd, List.set_cons_zero, List.set_cons_succ, Option.map_some, BT.nm, wipeE, seqK_n, seqK_r, andK_t, andK_f, orK_f, orK_t, iteK_t, iteK_f, asgK_nm, asgK_t2, asgK_t3, endF_n, endF_r, slI_i, toBl_b, vw_i, vw_b, vw_t, vw_tI, vw_tT, vw_l, vw_s, vw_n, vw_ty, src_t, src_tI, src_tT, src_l, bin_add, bin_sub, neg_i, not_b, r_sums h0 F hc]) (fun i hi => ⟨_, rfl, by simp [e_var, e_cst, e_ty, e_gfn, e_bin, e_cmp, e_chn, e_neg, e_nt, e_one, e_and, e_or, e_ite, e_tup, e_lst, e_idx, e_slc, o_none, o_some, e_call, e_blt, e_isi, a_nil, a_cons, i_of, i_rng, c_none, c_some, s_set, s_setLc, s_asg, s_par, s_stI, s_ex, s_ret, s_if, s_rai, s_pass, b_nil, b_cons, M.opt_some, R.bind_ok, getE_0, getE_s, List.map_cons, List.map_nil, List.cons_append, List.nil_append, List.length_cons, List.length_nil, List.replicate_succ, List.replicate_zero, Nat.reduceSub, Nat.reduceAdd, List.set_cons_zero, List.set_cons_succ, Option.map_some, BT.nm, wipeE, seqK_n, seqK_r, andK_t, andK_f, orK_f, orK_t, iteK_t, iteK_f, asgK_nm, asgK_t2, asgK_t3, endF_n, endF_r, slI_i, toBl_b, vw_i, vw_b, vw_t, vw_tI, vw_tT, vw_l, vw_s, vw_n, vw_ty, src_t, src_tI, src_tT, src_l, bin_add, bin_sub, neg_i, not_b, iabs]⟩)]
  simp only [R.bind_ok]
  rw [max_m _ _ (by simpa using F.ne)]
  simp [e_var, e_cst, e_ty, e_gfn, e_bin, e_cmp, e_chn, e_neg, e_nt, e_one, e_and, e_or, e_ite, e_tup, e_lst, e_idx, e_slc, o_none, o_some, e_call, e_blt, e_isi, a_nil, a_cons, i_of, i_rng, c_none, c_some, s_set, s_setLc, s_asg, s_par, s_stI, s_ex, s_ret, s_if, s_rai, s_pass, b_nil, b_cons, M.opt_some, R.bind_ok, getE_0, getE_s, List.map_cons, List.map_nil, List.cons_append, List.nil_append, List.length_cons, List.length_nil, List.replicate_succ, List.replicate_zero, Nat.reduceSub, Nat.reduceAdd, List.set_cons_zero, List.set_cons_succ, Option.map_some, BT.nm, wipeE, seqK_n, seqK_r, andK_t, andK_f, orK_f, orK_t, iteK_t, iteK_f, asgK_nm, asgK_t2, asgK_t3, endF_n, endF_r, slI_i, toBl_b, vw_i, vw_b, vw_t, vw_tI, vw_tT, vw_l, vw_s, vw_n, vw_ty, src_t, src_tI, src_tT, src_l, bin_add, bin_sub, neg_i, not_b, unev]
  rfl
theorem r_rows {x : Str} (h : fs x = some ⟨1, 5, b_all_colours⟩) (h0 : 0 ≤ n) (h7 : n ≤ 7) : runF fs (k + 1) x [.int n] S = .ok (.lst ((rows n.toNat).map tI)) S := by
  rw [rf_eq h]
  simp only [b_all_colours, e_var, e_cst, e_ty, e_gfn, e_bin, e_cmp, e_chn, e_neg, e_nt, e_one, e_and, e_or, e_ite, e_tup, e_lst, e_idx, e_slc, o_none, o_some, e_call, e_blt, e_isi, a_nil, a_cons, i_of, i_rng, c_none, c_some, s_set, s_setLc, s_asg, s_par, s_stI, s_ex, s_ret, s_if, s_rai, s_pass, b_nil, b_cons, M.opt_some, R.bind_ok, getE_0, getE_s, List.map_cons, List.map_nil, List.cons_append, List.nil_append, List.length_cons, List.length_nil, List.replicate_succ, List.replicate_zero, Nat.reduceSub, Nat.reduceAdd, List.set_cons_zero, List.set_cons_succ, Option.map_some, BT.nm, wipeE, seqK_n, seqK_r, andK_t, andK_f, orK_f, orK_t, iteK_t, iteK_f, asgK_nm, asgK_t2, asgK_t3, endF_n, endF_r, slI_i, toBl_b, vw_i, vw_b, vw_t, vw_tI, vw_tT, vw_l, vw_s, vw_n, vw_ty, src_t, src_tI, src_tT, src_l, bin_add, bin_sub, neg_i, not_b, e_lst]
  have h1 : Wp (exS (runF fs k) (.for_ (.rng (.cons (.var 0) .nil)) (.nm 2) (.cons (.setLc 1 (.lc2 [3, 4] [4] (.of (.var 1)) (.nm 3) .none (.of (.tup (.cons (.neg (.cst (.int 1))) (.cons (.cst (.int 1)) .nil)))) (.nm 4) .none (.bin .Add (.var 3) (.tup (.cons (.var 4) .nil))))) .nil)) [some (.int n), some (.lst [.tup []]), none, none, none] S) (fun f S' => S' = S ∧ ∃ t, f = .nx [some (.int n), some (.lst ((rows n.toNat).map tI)), t, none, none]) := by
    rw [s_for]
    refine wp_for (xs := (List.range n.toNat).map fun i : Nat => D.int (i : Int)) (S1 := S) (by simp [e_var, e_cst, e_ty, e_gfn, e_bin, e_cmp, e_chn, e_neg, e_nt, e_one, e_and, e_or, e_ite, e_tup, e_lst, e_idx, e_slc, o_none, o_some, e_call, e_blt, e_isi, a_nil, a_cons, i_of, i_rng, c_none, c_some, s_set, s_setLc, s_asg, s_par, s_stI, s_ex, s_ret, s_if, s_rai, s_pass, b_nil, b_cons, M.opt_some, R.bind_ok, getE_0, getE_s, List.map_cons, List.map_nil, List.cons_append, List.nil_append, List.length_cons, List.length_nil, List.replicate_succ, List.replicate_zero, Nat.reduceSub, Nat.reduceAdd, List.set_cons_zero, List.set_cons_succ, Option.map_some, BT.nm, wipeE, seqK_n, seqK_r, andK_t, andK_f, orK_f, orK_t, iteK_t, iteK_f, asgK_nm, asgK_t2, asgK_t3, endF_n, endF_r, slI_i, toBl_b, vw_i, vw_b, vw_t, vw_tI, vw_tT, vw_l, vw_s, vw_n, vw_ty, src_t, src_tI, src_tT, src_l, bin_add, bin_sub, neg_i, not_b]; rw [rng_1 (by omega), rangeD_n]; simp) (fun i ρ S' => S' = S ∧ ∃ t, ρ = [some (.int n), some (.lst ((rows i).map tI)), t, none, none]) _ ⟨rfl, none, rfl⟩ (fun i d ρ S' hx hI => ?_) (fun ρ S' hI => ?_)
    · obtain ⟨rfl, t, rfl⟩ := hI
      refine ⟨_, rfl, ?_⟩
      have hi : i < n.toNat := by
        have := (List.getElem?_eq_some_iff.mp hx).1
        simpa using this
      simp only [e_var, e_cst, e_ty, e_gfn, e_bin, e_cmp, e_chn, e_neg, e_nt, e_one, e_and, e_or, e_ite, e_tup, e_lst, e_idx, e_slc, o_none, o_some, e_call, e_blt, e_isi, a_nil, a_cons, i_of, i_rng, c_none, c_some, s_set, s_setLc, s_asg, s_par, s_stI, s_ex, s_ret, s_if, s_rai, s_pass, b_nil, b_cons, M.opt_some, R.bind_ok, getE_0, getE_s, List.map_cons, List.map_nil, List.cons_append, List.nil_append, List.length_cons, List.length_nil, List.replicate_succ, List.replicate_zero, Nat.reduceSub, Nat.reduceAdd, List.set_cons_zero, List.set_cons_succ, Option.map_some, BT.nm, wipeE, seqK_n, seqK_r, andK_t, andK_f, orK_f, orK_t, iteK_t, iteK_f, asgK_nm, asgK_t2, asgK_t3, endF_n, endF_r, slI_i, toBl_b, vw_i, vw_b, vw_t, vw_tI, vw_tT, vw_l, vw_s, vw_n, vw_ty, src_t, src_tI, src_tT, src_l, bin_add, bin_sub, neg_i, not_b]
      rw [lc2E_eq (rows i) tI [(-1 : Int), 1] D.int (fun r x => tI (r ++ [x])) (by simp [e_var, e_cst, e_ty, e_gfn, e_bin, e_cmp, e_chn, e_neg, e_nt, e_one, e_and, e_or, e_ite, e_tup, e_lst, e_idx, e_slc, o_none, o_some, e_call, e_blt, e_isi, a_nil, a_cons, i_of, i_rng, c_none, c_some, s_set, s_setLc, s_asg, s_par, s_stI, s_ex, s_ret, s_if, s_rai, s_pass, b_nil, b_cons, M.opt_some, R.bind_ok, getE_0, getE_s, List.map_cons, List.map_nil, List.cons_append, List.nil_append, List.length_cons, List.length_nil, List.replicate_succ, List.replicate_zero, Nat.reduceSub, Nat.reduceAdd, List.set_cons_zero, List.set_cons_succ, Option.map_some, BT.nm, wipeE, seqK_n, seqK_r, andK_t, andK_f, orK_f, orK_t, iteK_t, iteK_f, asgK_nm, asgK_t2, asgK_t3, endF_n, endF_r, slI_i, toBl_b, vw_i, vw_b, vw_t, vw_tI, vw_tT, vw_l, vw_s, vw_n, vw_ty, src_t, src_tI, src_tT, src_l, bin_add, bin_sub, neg_i, not_b]) (fun r hr => ⟨_, rfl, by simp [e_var, e_cst, e_ty, e_gfn, e_bin, e_cmp, e_chn, e_neg, e_nt, e_one, e_and, e_or, e_ite, e_tup, e_lst, e_idx, e_slc, o_none, o_some, e_call, e_blt, e_isi, a_nil, a_cons, i_of, i_rng, c_none, c_some, s_set, s_setLc, s_asg, s_par, s_stI, s_ex, s_ret, s_if, s_rai, s_pass, b_nil, b_cons, M.opt_some, R.bind_ok, getE_0, getE_s, List.map_cons, List.map_nil, List.cons_append, List.nil_append, List.length_cons, List.length_nil, List.replicate_succ, List.replicate_zero, Nat.reduceSub, Nat.reduceAdd, List.set_cons_zero, List.set_cons_succ, Option.map_some, BT.nm, wipeE, seqK_n, seqK_r, andK_t, andK_f, orK_f, orK_t, iteK_t, iteK_f, asgK_nm, asgK_t2, asgK_t3, endF_n, endF_r, slI_i, toBl_b, vw_i, vw_b, vw_t, vw_tI, vw_tT, vw_l, vw_s, vw_n, vw_ty, src_t, src_tI, src_tT, src_l, bin_add, bin_sub, neg_i, not_b], fun x hx => ⟨_, rfl, by
        have hl := ((rows_ok i r).mp hr).1
        have hb : (r.map D.int).length + [D.int x].length ≤ line := by
          rw [List.length_map]
          show r.length + 1 ≤ 16777216
          omega
        simp only [e_var, e_cst, e_ty, e_gfn, e_bin, e_cmp, e_chn, e_neg, e_nt, e_one, e_and, e_or, e_ite, e_tup, e_lst, e_idx, e_slc, o_none, o_some, e_call, e_blt, e_isi, a_nil, a_cons, i_of, i_rng, c_none, c_some, s_set, s_setLc, s_asg, s_par, s_stI, s_ex, s_ret, s_if, s_rai, s_pass, b_nil, b_cons, M.opt_some, R.bind_ok, getE_0, getE_s, List.map_cons, List.map_nil, List.cons_append, List.nil_append, List.length_cons, List.length_nil, List.replicate_succ, List.replicate_zero, Nat.reduceSub, Nat.reduceAdd, List.set_cons_zero, List.set_cons_succ, Option.map_some, BT.nm, wipeE, seqK_n, seqK_r, andK_t, andK_f, orK_f, orK_t, iteK_t, iteK_f, asgK_nm, asgK_t2, asgK_t3, endF_n, endF_r, slI_i, toBl_b, vw_i, vw_b, vw_t, vw_tI, vw_tT, vw_l, vw_s, vw_n, vw_ty, src_t, src_tI, src_tT, src_l, bin_add, bin_sub, neg_i, not_b, e_tup, tI, vw_t]
        rw [bin_addT hb]
        simp [tI]⟩⟩) (by
          rw [rows_len]
          have : 2 ^ i ≤ 2 ^ 7 := Nat.pow_le_pow_right (by decide) (by omega)
          show 2 ^ i * 2 < 16777216
          omega)]
      simp only [e_var, e_cst, e_ty, e_gfn, e_bin, e_cmp, e_chn, e_neg, e_nt, e_one, e_and, e_or, e_ite, e_tup, e_lst, e_idx, e_slc, o_none, o_some, e_call, e_blt, e_isi, a_nil, a_cons, i_of, i_rng, c_none, c_some, s_set, s_setLc, s_asg, s_par, s_stI, s_ex, s_ret, s_if, s_rai, s_pass, b_nil, b_cons, M.opt_some, R.bind_ok, getE_0, getE_s, List.map_cons, List.map_nil, List.cons_append, List.nil_append, List.length_cons, List.length_nil, List.replicate_succ, List.replicate_zero, Nat.reduceSub, Nat.reduceAdd, List.set_cons_zero, List.set_cons_succ, Option.map_some, BT.nm, wipeE, seqK_n, seqK_r, andK_t, andK_f, orK_f, orK_t, iteK_t, iteK_f, asgK_nm, asgK_t2, asgK_t3, endF_n, endF_r, slI_i, toBl_b, vw_i, vw_b, vw_t, vw_tI, vw_tT, vw_l, vw_s, vw_n, vw_ty, src_t, src_tI, src_tT, src_l, bin_add, bin_sub, neg_i, not_b]
      refine Wp.ok ⟨rfl, some d, ?_⟩
      have e : ((rows i).flatMap fun r => ([-1, 1] : List Int).map fun x => tI (r ++ [x])) = (rows (i + 1)).map tI := by
        show _ = ((rows i).flatMap fun r => [r ++ [-1], r ++ [1]]).map tI
        rw [List.map_flatMap]
        rfl
      rw [← e]
      rfl
    · rw [List.length_map, List.length_range] at hI
      obtain ⟨h1, t, rfl⟩ := hI
      exact ⟨h1, t, rfl⟩
  obtain ⟨f, S', e, rfl, t, rfl⟩ := h1.get
  rw [e]
  simp [e_var, e_cst, e_ty, e_gfn, e_bin, e_cmp, e_chn, e_neg, e_nt, e_one, e_and, e_or, e_ite, e_tup, e_lst, e_idx, e_slc, o_none, o_some, e_call, e_blt, e_isi, a_nil, a_cons, i_of, i_rng, c_none, c_some, s_set, s_setLc, s_asg, s_par, s_stI, s_ex, s_ret, s_if, s_rai, s_pass, b_nil, b_cons, M.opt_some, R.bind_ok, getE_0, getE_s, List.map_cons, List.map_nil, List.cons_append, List.nil_append, List.length_cons, List.length_nil, List.replicate_succ, List.replicate_zero, Nat.reduceSub, Nat.reduceAdd, List.set_cons_zero, List.set_cons_succ, Option.map_some, BT.nm, wipeE, seqK_n, seqK_r, andK_t, andK_f, orK_f, orK_t, iteK_t, iteK_f, asgK_nm, asgK_t2, asgK_t3, endF_n, endF_r, slI_i, toBl_b, vw_i, vw_b, vw_t, vw_tI, vw_tT, vw_l, vw_s, vw_n, vw_ty, src_t, src_tI, src_tT, src_l, bin_add, bin_sub, neg_i, not_b]
theorem r_least (h : HasC fs) (F : FamOk n ss) : runF fs (k + 3) "found_least" [fam n ss] S = .ok (.int (least n.toNat ss)) S := by
  rw [rf_eq h.flst]
  have := F.lo
  simp [b_found_least, e_var, e_cst, e_ty, e_gfn, e_bin, e_cmp, e_chn, e_neg, e_nt, e_one, e_and, e_or, e_ite, e_tup, e_lst, e_idx, e_slc, o_none, o_some, e_call, e_blt, e_isi, a_nil, a_cons, i_of, i_rng, c_none, c_some, s_set, s_setLc, s_asg, s_par, s_stI, s_ex, s_ret, s_if, s_rai, s_pass, b_nil, b_cons, M.opt_some, R.bind_ok, getE_0, getE_s, List.map_cons, List.map_nil, List.cons_append, List.nil_append, List.length_cons, List.length_nil, List.replicate_succ, List.replicate_zero, Nat.reduceSub, Nat.reduceAdd, List.set_cons_zero, List.set_cons_succ, Option.map_some, BT.nm, wipeE, seqK_n, seqK_r, andK_t, andK_f, orK_f, orK_t, iteK_t, iteK_f, asgK_nm, asgK_t2, asgK_t3, endF_n, endF_r, slI_i, toBl_b, vw_i, vw_b, vw_t, vw_tI, vw_tT, vw_l, vw_s, vw_n, vw_ty, src_t, src_tI, src_tT, src_l, bin_add, bin_sub, neg_i, not_b]
  rw [lcE_map (rows n.toNat) tI (fun c => D.int (unev c ss)) (by simp [e_var, e_cst, e_ty, e_gfn, e_bin, e_cmp, e_chn, e_neg, e_nt, e_one, e_and, e_or, e_ite, e_tup, e_lst, e_idx, e_slc, o_none, o_some, e_call, e_blt, e_isi, a_nil, a_cons, i_of, i_rng, c_none, c_some, s_set, s_setLc, s_asg, s_par, s_stI, s_ex, s_ret, s_if, s_rai, s_pass, b_nil, b_cons, M.opt_some, R.bind_ok, getE_0, getE_s, List.map_cons, List.map_nil, List.cons_append, List.nil_append, List.length_cons, List.length_nil, List.replicate_succ, List.replicate_zero, Nat.reduceSub, Nat.reduceAdd, List.set_cons_zero, List.set_cons_succ, Option.map_some, BT.nm, wipeE, seqK_n, seqK_r, andK_t, andK_f, orK_f, orK_t, iteK_t, iteK_f, asgK_nm, asgK_t2, asgK_t3, endF_n, endF_r, slI_i, toBl_b, vw_i, vw_b, vw_t, vw_tI, vw_tT, vw_l, vw_s, vw_n, vw_ty, src_t, src_tI, src_tT, src_l, bin_add, bin_sub, neg_i, not_b, fam, r_rows h.allc (n := n) (by omega) F.hi]) (fun c hc => ⟨_, rfl, by
    have hl := ((rows_ok _ c).mp hc).1
    simp [e_var, e_cst, e_ty, e_gfn, e_bin, e_cmp, e_chn, e_neg, e_nt, e_one, e_and, e_or, e_ite, e_tup, e_lst, e_idx, e_slc, o_none, o_some, e_call, e_blt, e_isi, a_nil, a_cons, i_of, i_rng, c_none, c_some, s_set, s_setLc, s_asg, s_par, s_stI, s_ex, s_ret, s_if, s_rai, s_pass, b_nil, b_cons, M.opt_some, R.bind_ok, getE_0, getE_s, List.map_cons, List.map_nil, List.cons_append, List.nil_append, List.length_cons, List.length_nil, List.replicate_succ, List.replicate_zero, Nat.reduceSub, Nat.reduceAdd, List.set_cons_zero, List.set_cons_succ, Option.map_some, BT.nm, wipeE, seqK_n, seqK_r, andK_t, andK_f, orK_f, orK_t, iteK_t, iteK_f, asgK_nm, asgK_t2, asgK_t3, endF_n, endF_r, slI_i, toBl_b, vw_i, vw_b, vw_t, vw_tI, vw_tT, vw_l, vw_s, vw_n, vw_ty, src_t, src_tI, src_tT, src_l, bin_add, bin_sub, neg_i, not_b, r_uneven rfl h.sums h.unev F (c := c) (by omega)]⟩)]
  simp only [R.bind_ok]
  rw [min_m _ _ (rows_ne _)]
  simp [e_var, e_cst, e_ty, e_gfn, e_bin, e_cmp, e_chn, e_neg, e_nt, e_one, e_and, e_or, e_ite, e_tup, e_lst, e_idx, e_slc, o_none, o_some, e_call, e_blt, e_isi, a_nil, a_cons, i_of, i_rng, c_none, c_some, s_set, s_setLc, s_asg, s_par, s_stI, s_ex, s_ret, s_if, s_rai, s_pass, b_nil, b_cons, M.opt_some, R.bind_ok, getE_0, getE_s, List.map_cons, List.map_nil, List.cons_append, List.nil_append, List.length_cons, List.length_nil, List.replicate_succ, List.replicate_zero, Nat.reduceSub, Nat.reduceAdd, List.set_cons_zero, List.set_cons_succ, Option.map_some, BT.nm, wipeE, seqK_n, seqK_r, andK_t, andK_f, orK_f, orK_t, iteK_t, iteK_f, asgK_nm, asgK_t2, asgK_t3, endF_n, endF_r, slI_i, toBl_b, vw_i, vw_b, vw_t, vw_tI, vw_tT, vw_l, vw_s, vw_n, vw_ty, src_t, src_tI, src_tT, src_l, bin_add, bin_sub, neg_i, not_b, least]
end
end LC

set_option maxHeartbeats 4000000
/-! P4: draws, drawn families. -/
namespace LC
open PySem PySem.Spec PyProof.Rows L2
def lI (xs : List Int) : D := .lst (xs.map .int)
/-- the town: a counter of at most b, as many numbers as the script has -/
def Tn (ns : List Int) (T : Store) (b : Nat) (S : Store) : Prop := ∃ (c : Int) (ys : List Int), S = .lst (.int c :: ys.map .int) :: T ∧ 0 ≤ c ∧ c ≤ b ∧ ys.length = ns.length
theorem Tn.mono {ns : List Int} {T : Store} {b b' : Nat} {S : Store} (h : Tn ns T b S) (hb : b ≤ b') : Tn ns T b' S := by
  obtain ⟨c, ys, e, h1, h2, h3⟩ := h
  exact ⟨c, ys, e, h1, by omega, h3⟩
@[simp] theorem vw_c0 (xs : List D) (T : Store) : vw (.lst xs :: T) (.cell 0) = .lst xs := rfl
theorem st_c0 {xs : List D} {T : Store} {i : Int} {j : Nat} {d : D} (h : i = (j : Int)) (hj : j < xs.length) : storeAt (.cell 0) (.int i) d (.lst xs :: T) = .ok () (.lst (xs.set j d) :: T) := by
  subst h
  show (match ixN xs.length (j : Int) with
    | some j => R.ok () (Cell.lst (xs.set j d) :: T)
    | none => R.bad) = _
  unfold ixN
  rw [if_pos (Int.natCast_nonneg j), if_pos (Int.ofNat_lt.mpr hj)]
  simp
theorem log_le {a : Int} {b : Nat} (h : a.natAbs < 2 ^ b) (hb : 0 < b) : a.natAbs.log2 < b := by
  by_cases h0 : a.natAbs = 0
  · rw [h0]; simpa using hb
  · exact (Nat.log2_lt h0).mpr h
theorem fmod_rng {a b : Int} (hb : 0 < b) : 0 ≤ a.fmod b ∧ a.fmod b < b := ⟨Int.fmod_nonneg_of_pos a hb, Int.fmod_lt_of_pos a hb⟩
theorem lI_0 (ns : List Int) : cmpB .Eq (.lst (ns.map D.int)) (.lst []) = some (.bl (decide (ns = []))) := ceq_l0 ns
section
variable {fs : Str → Option Fn} {k : Nat} {S T : Store} {ns : List Int} {b : Nat}
theorem r_draw (h : fs "_law_draw" = some ⟨3, 6, b__law_draw⟩) {lim : Int} (hl : 1 ≤ lim ∧ lim ≤ 1000) (hb : b ≤ 1000000) (ht : Tn ns T b S) :
    Wp (runF fs (k + 1) "_law_draw" [lI ns, .cell 0, .int lim] S) (fun d S' => ∃ v : Int, d = .int v ∧ 0 ≤ v ∧ v < lim ∧ Tn ns T (b + 1) S') := by
  obtain ⟨c, ys, rfl, h0, hcb, hy⟩ := ht
  rw [rf_eq h]
  have a0 : (.int c :: ys.map D.int : List D)[0]? = some (.int c) := rfl
  simp only [b__law_draw, e_var, e_cst, e_ty, e_gfn, e_bin, e_cmp, e_chn, e_neg, e_nt, e_one, e_and, e_or, e_ite, e_tup, e_lst, e_idx, e_slc, o_none, o_some, e_call, e_blt, e_isi, a_nil, a_cons, i_of, i_rng, c_none, c_some, s_set, s_setLc, s_asg, s_par, s_stI, s_ex, s_ret, s_if, s_rai, s_pass, b_nil, b_cons, M.opt_some, R.bind_ok, getE_0, getE_s, List.map_cons, List.map_nil, List.cons_append, List.nil_append, List.length_cons, List.length_nil, List.replicate_succ, List.replicate_zero, Nat.reduceSub, Nat.reduceAdd, List.set_cons_zero, List.set_cons_succ, Option.map_some, BT.nm, wipeE, seqK_n, seqK_r, andK_t, andK_f, orK_f, orK_t, iteK_t, iteK_f, asgK_nm, asgK_t2, asgK_t3, endF_n, endF_r, slI_i, toBl_b, vw_i, vw_b, vw_t, vw_tI, vw_tT, vw_l, vw_s, vw_n, vw_ty, src_t, src_tI, src_tT, src_l, bin_add, bin_sub, neg_i, not_b, lI, vw_c0, idx_l, atI_0]
  rw [st_c0 (i := 0) (j := 0) rfl (by simp)]
  simp only [e_var, e_cst, e_ty, e_gfn, e_bin, e_cmp, e_chn, e_neg, e_nt, e_one, e_and, e_or, e_ite, e_tup, e_lst, e_idx, e_slc, o_none, o_some, e_call, e_blt, e_isi, a_nil, a_cons, i_of, i_rng, c_none, c_some, s_set, s_setLc, s_asg, s_par, s_stI, s_ex, s_ret, s_if, s_rai, s_pass, b_nil, b_cons, M.opt_some, R.bind_ok, getE_0, getE_s, List.map_cons, List.map_nil, List.cons_append, List.nil_append, List.length_cons, List.length_nil, List.replicate_succ, List.replicate_zero, Nat.reduceSub, Nat.reduceAdd, List.set_cons_zero, List.set_cons_succ, Option.map_some, BT.nm, wipeE, seqK_n, seqK_r, andK_t, andK_f, orK_f, orK_t, iteK_t, iteK_f, asgK_nm, asgK_t2, asgK_t3, endF_n, endF_r, slI_i, toBl_b, vw_i, vw_b, vw_t, vw_tI, vw_tT, vw_l, vw_s, vw_n, vw_ty, src_t, src_tI, src_tT, src_l, bin_add, bin_sub, neg_i, not_b, vw_c0, idx_l, atI_0, e_lst, lI_0]
  have c1 : (c + 1).natAbs.log2 < 1000 := log_le (Nat.lt_of_le_of_lt (m := 1000001) (by omega) (by decide +kernel)) (by decide)
  have hb1 : 0 ≤ c + 1 ∧ c + 1 ≤ ((b + 1 : Nat) : Int) := by omega
  by_cases hn : ns = []
  · simp only [decide_eq_true hn, iteK_t, e_var, e_cst, e_ty, e_gfn, e_bin, e_cmp, e_chn, e_neg, e_nt, e_one, e_and, e_or, e_ite, e_tup, e_lst, e_idx, e_slc, o_none, o_some, e_call, e_blt, e_isi, a_nil, a_cons, i_of, i_rng, c_none, c_some, s_set, s_setLc, s_asg, s_par, s_stI, s_ex, s_ret, s_if, s_rai, s_pass, b_nil, b_cons, M.opt_some, R.bind_ok, getE_0, getE_s, List.map_cons, List.map_nil, List.cons_append, List.nil_append, List.length_cons, List.length_nil, List.replicate_succ, List.replicate_zero, Nat.reduceSub, Nat.reduceAdd, List.set_cons_zero, List.set_cons_succ, Option.map_some, BT.nm, wipeE, seqK_n, seqK_r, andK_t, andK_f, orK_f, orK_t, iteK_t, iteK_f, asgK_nm, asgK_t2, asgK_t3, endF_n, endF_r, slI_i, toBl_b, vw_i, vw_b, vw_t, vw_tI, vw_tT, vw_l, vw_s, vw_n, vw_ty, src_t, src_tI, src_tT, src_l, bin_add, bin_sub, neg_i, not_b, vw_c0, idx_l, atI_0]
    have c2 : ((c + 1) * (c + 1)).natAbs.log2 < 1000 := log_le (by
      rw [Int.natAbs_mul]
      have : (c + 1).natAbs ≤ 1000001 := by omega
      exact Nat.lt_of_le_of_lt (Nat.mul_le_mul this this) (by decide +kernel)) (by decide)
    have c3 : (7 : Int).natAbs.log2 < 1000 := by decide
    rw [bin_mul (by omega)]
    simp only [e_var, e_cst, e_ty, e_gfn, e_bin, e_cmp, e_chn, e_neg, e_nt, e_one, e_and, e_or, e_ite, e_tup, e_lst, e_idx, e_slc, o_none, o_some, e_call, e_blt, e_isi, a_nil, a_cons, i_of, i_rng, c_none, c_some, s_set, s_setLc, s_asg, s_par, s_stI, s_ex, s_ret, s_if, s_rai, s_pass, b_nil, b_cons, M.opt_some, R.bind_ok, getE_0, getE_s, List.map_cons, List.map_nil, List.cons_append, List.nil_append, List.length_cons, List.length_nil, List.replicate_succ, List.replicate_zero, Nat.reduceSub, Nat.reduceAdd, List.set_cons_zero, List.set_cons_succ, Option.map_some, BT.nm, wipeE, seqK_n, seqK_r, andK_t, andK_f, orK_f, orK_t, iteK_t, iteK_f, asgK_nm, asgK_t2, asgK_t3, endF_n, endF_r, slI_i, toBl_b, vw_i, vw_b, vw_t, vw_tI, vw_tT, vw_l, vw_s, vw_n, vw_ty, src_t, src_tI, src_tT, src_l, bin_add, bin_sub, neg_i, not_b]
    rw [bin_mul (by omega)]
    simp only [e_var, e_cst, e_ty, e_gfn, e_bin, e_cmp, e_chn, e_neg, e_nt, e_one, e_and, e_or, e_ite, e_tup, e_lst, e_idx, e_slc, o_none, o_some, e_call, e_blt, e_isi, a_nil, a_cons, i_of, i_rng, c_none, c_some, s_set, s_setLc, s_asg, s_par, s_stI, s_ex, s_ret, s_if, s_rai, s_pass, b_nil, b_cons, M.opt_some, R.bind_ok, getE_0, getE_s, List.map_cons, List.map_nil, List.cons_append, List.nil_append, List.length_cons, List.length_nil, List.replicate_succ, List.replicate_zero, Nat.reduceSub, Nat.reduceAdd, List.set_cons_zero, List.set_cons_succ, Option.map_some, BT.nm, wipeE, seqK_n, seqK_r, andK_t, andK_f, orK_f, orK_t, iteK_t, iteK_f, asgK_nm, asgK_t2, asgK_t3, endF_n, endF_r, slI_i, toBl_b, vw_i, vw_b, vw_t, vw_tI, vw_tT, vw_l, vw_s, vw_n, vw_ty, src_t, src_tI, src_tT, src_l, bin_add, bin_sub, neg_i, not_b]
    rw [bin_div (by decide)]
    simp only [e_var, e_cst, e_ty, e_gfn, e_bin, e_cmp, e_chn, e_neg, e_nt, e_one, e_and, e_or, e_ite, e_tup, e_lst, e_idx, e_slc, o_none, o_some, e_call, e_blt, e_isi, a_nil, a_cons, i_of, i_rng, c_none, c_some, s_set, s_setLc, s_asg, s_par, s_stI, s_ex, s_ret, s_if, s_rai, s_pass, b_nil, b_cons, M.opt_some, R.bind_ok, getE_0, getE_s, List.map_cons, List.map_nil, List.cons_append, List.nil_append, List.length_cons, List.length_nil, List.replicate_succ, List.replicate_zero, Nat.reduceSub, Nat.reduceAdd, List.set_cons_zero, List.set_cons_succ, Option.map_some, BT.nm, wipeE, seqK_n, seqK_r, andK_t, andK_f, orK_f, orK_t, iteK_t, iteK_f, asgK_nm, asgK_t2, asgK_t3, endF_n, endF_r, slI_i, toBl_b, vw_i, vw_b, vw_t, vw_tI, vw_tT, vw_l, vw_s, vw_n, vw_ty, src_t, src_tI, src_tT, src_l, bin_add, bin_sub, neg_i, not_b]
    rw [bin_mod (by omega)]
    simp only [e_var, e_cst, e_ty, e_gfn, e_bin, e_cmp, e_chn, e_neg, e_nt, e_one, e_and, e_or, e_ite, e_tup, e_lst, e_idx, e_slc, o_none, o_some, e_call, e_blt, e_isi, a_nil, a_cons, i_of, i_rng, c_none, c_some, s_set, s_setLc, s_asg, s_par, s_stI, s_ex, s_ret, s_if, s_rai, s_pass, b_nil, b_cons, M.opt_some, R.bind_ok, getE_0, getE_s, List.map_cons, List.map_nil, List.cons_append, List.nil_append, List.length_cons, List.length_nil, List.replicate_succ, List.replicate_zero, Nat.reduceSub, Nat.reduceAdd, List.set_cons_zero, List.set_cons_succ, Option.map_some, BT.nm, wipeE, seqK_n, seqK_r, andK_t, andK_f, orK_f, orK_t, iteK_t, iteK_f, asgK_nm, asgK_t2, asgK_t3, endF_n, endF_r, slI_i, toBl_b, vw_i, vw_b, vw_t, vw_tI, vw_tT, vw_l, vw_s, vw_n, vw_ty, src_t, src_tI, src_tT, src_l, bin_add, bin_sub, neg_i, not_b]
    exact ⟨_, rfl, (fmod_rng (by omega)).1, (fmod_rng (by omega)).2, c + 1, ys, rfl, hb1.1, hb1.2, hy⟩
  · simp only [decide_eq_false hn, iteK_f, e_var, e_cst, e_ty, e_gfn, e_bin, e_cmp, e_chn, e_neg, e_nt, e_one, e_and, e_or, e_ite, e_tup, e_lst, e_idx, e_slc, o_none, o_some, e_call, e_blt, e_isi, a_nil, a_cons, i_of, i_rng, c_none, c_some, s_set, s_setLc, s_asg, s_par, s_stI, s_ex, s_ret, s_if, s_rai, s_pass, b_nil, b_cons, M.opt_some, R.bind_ok, getE_0, getE_s, List.map_cons, List.map_nil, List.cons_append, List.nil_append, List.length_cons, List.length_nil, List.replicate_succ, List.replicate_zero, Nat.reduceSub, Nat.reduceAdd, List.set_cons_zero, List.set_cons_succ, Option.map_some, BT.nm, wipeE, seqK_n, seqK_r, andK_t, andK_f, orK_f, orK_t, iteK_t, iteK_f, asgK_nm, asgK_t2, asgK_t3, endF_n, endF_r, slI_i, toBl_b, vw_i, vw_b, vw_t, vw_tI, vw_tT, vw_l, vw_s, vw_n, vw_ty, src_t, src_tI, src_tT, src_l, bin_add, bin_sub, neg_i, not_b, vw_c0, idx_l, atI_0]
    have hlen : 0 < ns.length := Nat.pos_of_ne_zero fun z => hn (List.length_eq_zero_iff.mp z)
    rw [show fB .len (.lst (D.int (c + 1) :: ys.map D.int) :: T) [.lst (ns.map D.int)] = some (.int ns.length) by rw [len_l, List.length_map]]
    simp only [e_var, e_cst, e_ty, e_gfn, e_bin, e_cmp, e_chn, e_neg, e_nt, e_one, e_and, e_or, e_ite, e_tup, e_lst, e_idx, e_slc, o_none, o_some, e_call, e_blt, e_isi, a_nil, a_cons, i_of, i_rng, c_none, c_some, s_set, s_setLc, s_asg, s_par, s_stI, s_ex, s_ret, s_if, s_rai, s_pass, b_nil, b_cons, M.opt_some, R.bind_ok, getE_0, getE_s, List.map_cons, List.map_nil, List.cons_append, List.nil_append, List.length_cons, List.length_nil, List.replicate_succ, List.replicate_zero, Nat.reduceSub, Nat.reduceAdd, List.set_cons_zero, List.set_cons_succ, Option.map_some, BT.nm, wipeE, seqK_n, seqK_r, andK_t, andK_f, orK_f, orK_t, iteK_t, iteK_f, asgK_nm, asgK_t2, asgK_t3, endF_n, endF_r, slI_i, toBl_b, vw_i, vw_b, vw_t, vw_tI, vw_tT, vw_l, vw_s, vw_n, vw_ty, src_t, src_tI, src_tT, src_l, bin_add, bin_sub, neg_i, not_b, vw_c0, idx_l, atI_0]
    rw [bin_mod (by omega)]
    simp only [e_var, e_cst, e_ty, e_gfn, e_bin, e_cmp, e_chn, e_neg, e_nt, e_one, e_and, e_or, e_ite, e_tup, e_lst, e_idx, e_slc, o_none, o_some, e_call, e_blt, e_isi, a_nil, a_cons, i_of, i_rng, c_none, c_some, s_set, s_setLc, s_asg, s_par, s_stI, s_ex, s_ret, s_if, s_rai, s_pass, b_nil, b_cons, M.opt_some, R.bind_ok, getE_0, getE_s, List.map_cons, List.map_nil, List.cons_append, List.nil_append, List.length_cons, List.length_nil, List.replicate_succ, List.replicate_zero, Nat.reduceSub, Nat.reduceAdd, List.set_cons_zero, List.set_cons_succ, Option.map_some, BT.nm, wipeE, seqK_n, seqK_r, andK_t, andK_f, orK_f, orK_t, iteK_t, iteK_f, asgK_nm, asgK_t2, asgK_t3, endF_n, endF_r, slI_i, toBl_b, vw_i, vw_b, vw_t, vw_tI, vw_tT, vw_l, vw_s, vw_n, vw_ty, src_t, src_tI, src_tT, src_l, bin_add, bin_sub, neg_i, not_b, vw_c0, idx_l, atI_0]
    obtain ⟨p, hp, hpl⟩ : ∃ p : Nat, (c + 1).fmod (ns.length : Int) = (p : Int) ∧ p < ns.length := by
      have := fmod_rng (a := c + 1) (b := (ns.length : Int)) (by omega)
      exact ⟨((c + 1).fmod (ns.length : Int)).toNat, by omega, by omega⟩
    rw [hp]
    have a1 : atI (D.int (c + 1) :: ys.map D.int) (1 + (p : Int)) = some (.int (ys[p]'(by omega))) := atI_of (j := p + 1) (by omega) (by rw [List.getElem?_cons_succ, List.getElem?_map, List.getElem?_eq_getElem (by omega)]; rfl)
    have a2 : atI (ns.map D.int) (p : Int) = some (.int ns[p]) := atI_of (j := p) rfl (by rw [List.getElem?_map, List.getElem?_eq_getElem hpl]; rfl)
    rw [a1]
    simp only [e_var, e_cst, e_ty, e_gfn, e_bin, e_cmp, e_chn, e_neg, e_nt, e_one, e_and, e_or, e_ite, e_tup, e_lst, e_idx, e_slc, o_none, o_some, e_call, e_blt, e_isi, a_nil, a_cons, i_of, i_rng, c_none, c_some, s_set, s_setLc, s_asg, s_par, s_stI, s_ex, s_ret, s_if, s_rai, s_pass, b_nil, b_cons, M.opt_some, R.bind_ok, getE_0, getE_s, List.map_cons, List.map_nil, List.cons_append, List.nil_append, List.length_cons, List.length_nil, List.replicate_succ, List.replicate_zero, Nat.reduceSub, Nat.reduceAdd, List.set_cons_zero, List.set_cons_succ, Option.map_some, BT.nm, wipeE, seqK_n, seqK_r, andK_t, andK_f, orK_f, orK_t, iteK_t, iteK_f, asgK_nm, asgK_t2, asgK_t3, endF_n, endF_r, slI_i, toBl_b, vw_i, vw_b, vw_t, vw_tI, vw_tT, vw_l, vw_s, vw_n, vw_ty, src_t, src_tI, src_tT, src_l, bin_add, bin_sub, neg_i, not_b, vw_c0, idx_l, atI_0]
    rw [a2]
    simp only [e_var, e_cst, e_ty, e_gfn, e_bin, e_cmp, e_chn, e_neg, e_nt, e_one, e_and, e_or, e_ite, e_tup, e_lst, e_idx, e_slc, o_none, o_some, e_call, e_blt, e_isi, a_nil, a_cons, i_of, i_rng, c_none, c_some, s_set, s_setLc, s_asg, s_par, s_stI, s_ex, s_ret, s_if, s_rai, s_pass, b_nil, b_cons, M.opt_some, R.bind_ok, getE_0, getE_s, List.map_cons, List.map_nil, List.cons_append, List.nil_append, List.length_cons, List.length_nil, List.replicate_succ, List.replicate_zero, Nat.reduceSub, Nat.reduceAdd, List.set_cons_zero, List.set_cons_succ, Option.map_some, BT.nm, wipeE, seqK_n, seqK_r, andK_t, andK_f, orK_f, orK_t, iteK_t, iteK_f, asgK_nm, asgK_t2, asgK_t3, endF_n, endF_r, slI_i, toBl_b, vw_i, vw_b, vw_t, vw_tI, vw_tT, vw_l, vw_s, vw_n, vw_ty, src_t, src_tI, src_tT, src_l, bin_add, bin_sub, neg_i, not_b, vw_c0, idx_l, atI_0]
    rw [bin_pow (by decide)]
    simp only [e_var, e_cst, e_ty, e_gfn, e_bin, e_cmp, e_chn, e_neg, e_nt, e_one, e_and, e_or, e_ite, e_tup, e_lst, e_idx, e_slc, o_none, o_some, e_call, e_blt, e_isi, a_nil, a_cons, i_of, i_rng, c_none, c_some, s_set, s_setLc, s_asg, s_par, s_stI, s_ex, s_ret, s_if, s_rai, s_pass, b_nil, b_cons, M.opt_some, R.bind_ok, getE_0, getE_s, List.map_cons, List.map_nil, List.cons_append, List.nil_append, List.length_cons, List.length_nil, List.replicate_succ, List.replicate_zero, Nat.reduceSub, Nat.reduceAdd, List.set_cons_zero, List.set_cons_succ, Option.map_some, BT.nm, wipeE, seqK_n, seqK_r, andK_t, andK_f, orK_f, orK_t, iteK_t, iteK_f, asgK_nm, asgK_t2, asgK_t3, endF_n, endF_r, slI_i, toBl_b, vw_i, vw_b, vw_t, vw_tI, vw_tT, vw_l, vw_s, vw_n, vw_ty, src_t, src_tI, src_tT, src_l, bin_add, bin_sub, neg_i, not_b, vw_c0, idx_l, atI_0, cmp_ge]
    generalize hz : ys[p]'(by omega) = z
    generalize ns[p] = w at a2 ⊢
    have a2' : atI (ns.map D.int) (p : Int) = some (.int w) := a2
    clear a2
    by_cases hw : (10 : Int) ^ (18 : Int).toNat ≤ w
    · simp only [decide_eq_true hw, e_var, e_cst, e_ty, e_gfn, e_bin, e_cmp, e_chn, e_neg, e_nt, e_one, e_and, e_or, e_ite, e_tup, e_lst, e_idx, e_slc, o_none, o_some, e_call, e_blt, e_isi, a_nil, a_cons, i_of, i_rng, c_none, c_some, s_set, s_setLc, s_asg, s_par, s_stI, s_ex, s_ret, s_if, s_rai, s_pass, b_nil, b_cons, M.opt_some, R.bind_ok, getE_0, getE_s, List.map_cons, List.map_nil, List.cons_append, List.nil_append, List.length_cons, List.length_nil, List.replicate_succ, List.replicate_zero, Nat.reduceSub, Nat.reduceAdd, List.set_cons_zero, List.set_cons_succ, Option.map_some, BT.nm, wipeE, seqK_n, seqK_r, andK_t, andK_f, orK_f, orK_t, iteK_t, iteK_f, asgK_nm, asgK_t2, asgK_t3, endF_n, endF_r, slI_i, toBl_b, vw_i, vw_b, vw_t, vw_tI, vw_tT, vw_l, vw_s, vw_n, vw_ty, src_t, src_tI, src_tT, src_l, bin_add, bin_sub, neg_i, not_b, cmp_gt]
      by_cases hz0 : 0 < z
      · simp only [decide_eq_true hz0, e_var, e_cst, e_ty, e_gfn, e_bin, e_cmp, e_chn, e_neg, e_nt, e_one, e_and, e_or, e_ite, e_tup, e_lst, e_idx, e_slc, o_none, o_some, e_call, e_blt, e_isi, a_nil, a_cons, i_of, i_rng, c_none, c_some, s_set, s_setLc, s_asg, s_par, s_stI, s_ex, s_ret, s_if, s_rai, s_pass, b_nil, b_cons, M.opt_some, R.bind_ok, getE_0, getE_s, List.map_cons, List.map_nil, List.cons_append, List.nil_append, List.length_cons, List.length_nil, List.replicate_succ, List.replicate_zero, Nat.reduceSub, Nat.reduceAdd, List.set_cons_zero, List.set_cons_succ, Option.map_some, BT.nm, wipeE, seqK_n, seqK_r, andK_t, andK_f, orK_f, orK_t, iteK_t, iteK_f, asgK_nm, asgK_t2, asgK_t3, endF_n, endF_r, slI_i, toBl_b, vw_i, vw_b, vw_t, vw_tI, vw_tT, vw_l, vw_s, vw_n, vw_ty, src_t, src_tI, src_tT, src_l, bin_add, bin_sub, neg_i, not_b]
        rw [bin_div (by omega)]
        simp only [e_var, e_cst, e_ty, e_gfn, e_bin, e_cmp, e_chn, e_neg, e_nt, e_one, e_and, e_or, e_ite, e_tup, e_lst, e_idx, e_slc, o_none, o_some, e_call, e_blt, e_isi, a_nil, a_cons, i_of, i_rng, c_none, c_some, s_set, s_setLc, s_asg, s_par, s_stI, s_ex, s_ret, s_if, s_rai, s_pass, b_nil, b_cons, M.opt_some, R.bind_ok, getE_0, getE_s, List.map_cons, List.map_nil, List.cons_append, List.nil_append, List.length_cons, List.length_nil, List.replicate_succ, List.replicate_zero, Nat.reduceSub, Nat.reduceAdd, List.set_cons_zero, List.set_cons_succ, Option.map_some, BT.nm, wipeE, seqK_n, seqK_r, andK_t, andK_f, orK_f, orK_t, iteK_t, iteK_f, asgK_nm, asgK_t2, asgK_t3, endF_n, endF_r, slI_i, toBl_b, vw_i, vw_b, vw_t, vw_tI, vw_tT, vw_l, vw_s, vw_n, vw_ty, src_t, src_tI, src_tT, src_l, bin_add, bin_sub, neg_i, not_b, vw_c0, idx_l, atI_0]
        rw [st_c0 (j := p + 1) (by omega) (by simp; omega)]
        simp only [e_var, e_cst, e_ty, e_gfn, e_bin, e_cmp, e_chn, e_neg, e_nt, e_one, e_and, e_or, e_ite, e_tup, e_lst, e_idx, e_slc, o_none, o_some, e_call, e_blt, e_isi, a_nil, a_cons, i_of, i_rng, c_none, c_some, s_set, s_setLc, s_asg, s_par, s_stI, s_ex, s_ret, s_if, s_rai, s_pass, b_nil, b_cons, M.opt_some, R.bind_ok, getE_0, getE_s, List.map_cons, List.map_nil, List.cons_append, List.nil_append, List.length_cons, List.length_nil, List.replicate_succ, List.replicate_zero, Nat.reduceSub, Nat.reduceAdd, List.set_cons_zero, List.set_cons_succ, Option.map_some, BT.nm, wipeE, seqK_n, seqK_r, andK_t, andK_f, orK_f, orK_t, iteK_t, iteK_f, asgK_nm, asgK_t2, asgK_t3, endF_n, endF_r, slI_i, toBl_b, vw_i, vw_b, vw_t, vw_tI, vw_tT, vw_l, vw_s, vw_n, vw_ty, src_t, src_tI, src_tT, src_l, bin_add, bin_sub, neg_i, not_b, vw_c0, idx_l, atI_0]
        rw [bin_mod (by omega)]
        simp only [e_var, e_cst, e_ty, e_gfn, e_bin, e_cmp, e_chn, e_neg, e_nt, e_one, e_and, e_or, e_ite, e_tup, e_lst, e_idx, e_slc, o_none, o_some, e_call, e_blt, e_isi, a_nil, a_cons, i_of, i_rng, c_none, c_some, s_set, s_setLc, s_asg, s_par, s_stI, s_ex, s_ret, s_if, s_rai, s_pass, b_nil, b_cons, M.opt_some, R.bind_ok, getE_0, getE_s, List.map_cons, List.map_nil, List.cons_append, List.nil_append, List.length_cons, List.length_nil, List.replicate_succ, List.replicate_zero, Nat.reduceSub, Nat.reduceAdd, List.set_cons_zero, List.set_cons_succ, Option.map_some, BT.nm, wipeE, seqK_n, seqK_r, andK_t, andK_f, orK_f, orK_t, iteK_t, iteK_f, asgK_nm, asgK_t2, asgK_t3, endF_n, endF_r, slI_i, toBl_b, vw_i, vw_b, vw_t, vw_tI, vw_tT, vw_l, vw_s, vw_n, vw_ty, src_t, src_tI, src_tT, src_l, bin_add, bin_sub, neg_i, not_b]
        refine ⟨_, rfl, (fmod_rng (by omega)).1, (fmod_rng (by omega)).2, c + 1, ys.set p (z.fdiv lim), ?_, hb1.1, hb1.2, by rw [List.length_set]; exact hy⟩
        rw [List.map_set]
      · simp only [decide_eq_false hz0, e_var, e_cst, e_ty, e_gfn, e_bin, e_cmp, e_chn, e_neg, e_nt, e_one, e_and, e_or, e_ite, e_tup, e_lst, e_idx, e_slc, o_none, o_some, e_call, e_blt, e_isi, a_nil, a_cons, i_of, i_rng, c_none, c_some, s_set, s_setLc, s_asg, s_par, s_stI, s_ex, s_ret, s_if, s_rai, s_pass, b_nil, b_cons, M.opt_some, R.bind_ok, getE_0, getE_s, List.map_cons, List.map_nil, List.cons_append, List.nil_append, List.length_cons, List.length_nil, List.replicate_succ, List.replicate_zero, Nat.reduceSub, Nat.reduceAdd, List.set_cons_zero, List.set_cons_succ, Option.map_some, BT.nm, wipeE, seqK_n, seqK_r, andK_t, andK_f, orK_f, orK_t, iteK_t, iteK_f, asgK_nm, asgK_t2, asgK_t3, endF_n, endF_r, slI_i, toBl_b, vw_i, vw_b, vw_t, vw_tI, vw_tT, vw_l, vw_s, vw_n, vw_ty, src_t, src_tI, src_tT, src_l, bin_add, bin_sub, neg_i, not_b]
        simp only [e_var, e_cst, e_ty, e_gfn, e_bin, e_cmp, e_chn, e_neg, e_nt, e_one, e_and, e_or, e_ite, e_tup, e_lst, e_idx, e_slc, o_none, o_some, e_call, e_blt, e_isi, a_nil, a_cons, i_of, i_rng, c_none, c_some, s_set, s_setLc, s_asg, s_par, s_stI, s_ex, s_ret, s_if, s_rai, s_pass, b_nil, b_cons, M.opt_some, R.bind_ok, getE_0, getE_s, List.map_cons, List.map_nil, List.cons_append, List.nil_append, List.length_cons, List.length_nil, List.replicate_succ, List.replicate_zero, Nat.reduceSub, Nat.reduceAdd, List.set_cons_zero, List.set_cons_succ, Option.map_some, BT.nm, wipeE, seqK_n, seqK_r, andK_t, andK_f, orK_f, orK_t, iteK_t, iteK_f, asgK_nm, asgK_t2, asgK_t3, endF_n, endF_r, slI_i, toBl_b, vw_i, vw_b, vw_t, vw_tI, vw_tT, vw_l, vw_s, vw_n, vw_ty, src_t, src_tI, src_tT, src_l, bin_add, bin_sub, neg_i, not_b, vw_c0, idx_l, atI_0, a2']
        rw [bin_mul (by have : (104729 : Int).natAbs.log2 < 1000 := by decide
                        omega)]
        simp only [e_var, e_cst, e_ty, e_gfn, e_bin, e_cmp, e_chn, e_neg, e_nt, e_one, e_and, e_or, e_ite, e_tup, e_lst, e_idx, e_slc, o_none, o_some, e_call, e_blt, e_isi, a_nil, a_cons, i_of, i_rng, c_none, c_some, s_set, s_setLc, s_asg, s_par, s_stI, s_ex, s_ret, s_if, s_rai, s_pass, b_nil, b_cons, M.opt_some, R.bind_ok, getE_0, getE_s, List.map_cons, List.map_nil, List.cons_append, List.nil_append, List.length_cons, List.length_nil, List.replicate_succ, List.replicate_zero, Nat.reduceSub, Nat.reduceAdd, List.set_cons_zero, List.set_cons_succ, Option.map_some, BT.nm, wipeE, seqK_n, seqK_r, andK_t, andK_f, orK_f, orK_t, iteK_t, iteK_f, asgK_nm, asgK_t2, asgK_t3, endF_n, endF_r, slI_i, toBl_b, vw_i, vw_b, vw_t, vw_tI, vw_tT, vw_l, vw_s, vw_n, vw_ty, src_t, src_tI, src_tT, src_l, bin_add, bin_sub, neg_i, not_b, vw_c0, idx_l, atI_0]
        rw [bin_mod (by decide)]
        simp only [e_var, e_cst, e_ty, e_gfn, e_bin, e_cmp, e_chn, e_neg, e_nt, e_one, e_and, e_or, e_ite, e_tup, e_lst, e_idx, e_slc, o_none, o_some, e_call, e_blt, e_isi, a_nil, a_cons, i_of, i_rng, c_none, c_some, s_set, s_setLc, s_asg, s_par, s_stI, s_ex, s_ret, s_if, s_rai, s_pass, b_nil, b_cons, M.opt_some, R.bind_ok, getE_0, getE_s, List.map_cons, List.map_nil, List.cons_append, List.nil_append, List.length_cons, List.length_nil, List.replicate_succ, List.replicate_zero, Nat.reduceSub, Nat.reduceAdd, List.set_cons_zero, List.set_cons_succ, Option.map_some, BT.nm, wipeE, seqK_n, seqK_r, andK_t, andK_f, orK_f, orK_t, iteK_t, iteK_f, asgK_nm, asgK_t2, asgK_t3, endF_n, endF_r, slI_i, toBl_b, vw_i, vw_b, vw_t, vw_tI, vw_tT, vw_l, vw_s, vw_n, vw_ty, src_t, src_tI, src_tT, src_l, bin_add, bin_sub, neg_i, not_b, vw_c0, idx_l, atI_0]
        obtain ⟨m1, m2⟩ := fmod_rng (a := w + 104729 * (c + 1)) (b := 4294967291) (by decide)
        generalize (w + 104729 * (c + 1)).fmod 4294967291 = u at m1 m2
        rw [bin_pow ⟨by decide, by decide, by omega⟩]
        simp only [e_var, e_cst, e_ty, e_gfn, e_bin, e_cmp, e_chn, e_neg, e_nt, e_one, e_and, e_or, e_ite, e_tup, e_lst, e_idx, e_slc, o_none, o_some, e_call, e_blt, e_isi, a_nil, a_cons, i_of, i_rng, c_none, c_some, s_set, s_setLc, s_asg, s_par, s_stI, s_ex, s_ret, s_if, s_rai, s_pass, b_nil, b_cons, M.opt_some, R.bind_ok, getE_0, getE_s, List.map_cons, List.map_nil, List.cons_append, List.nil_append, List.length_cons, List.length_nil, List.replicate_succ, List.replicate_zero, Nat.reduceSub, Nat.reduceAdd, List.set_cons_zero, List.set_cons_succ, Option.map_some, BT.nm, wipeE, seqK_n, seqK_r, andK_t, andK_f, orK_f, orK_t, iteK_t, iteK_f, asgK_nm, asgK_t2, asgK_t3, endF_n, endF_r, slI_i, toBl_b, vw_i, vw_b, vw_t, vw_tI, vw_tT, vw_l, vw_s, vw_n, vw_ty, src_t, src_tI, src_tT, src_l, bin_add, bin_sub, neg_i, not_b, vw_c0, idx_l, atI_0]
        rw [bin_mod (by decide)]
        simp only [e_var, e_cst, e_ty, e_gfn, e_bin, e_cmp, e_chn, e_neg, e_nt, e_one, e_and, e_or, e_ite, e_tup, e_lst, e_idx, e_slc, o_none, o_some, e_call, e_blt, e_isi, a_nil, a_cons, i_of, i_rng, c_none, c_some, s_set, s_setLc, s_asg, s_par, s_stI, s_ex, s_ret, s_if, s_rai, s_pass, b_nil, b_cons, M.opt_some, R.bind_ok, getE_0, getE_s, List.map_cons, List.map_nil, List.cons_append, List.nil_append, List.length_cons, List.length_nil, List.replicate_succ, List.replicate_zero, Nat.reduceSub, Nat.reduceAdd, List.set_cons_zero, List.set_cons_succ, Option.map_some, BT.nm, wipeE, seqK_n, seqK_r, andK_t, andK_f, orK_f, orK_t, iteK_t, iteK_f, asgK_nm, asgK_t2, asgK_t3, endF_n, endF_r, slI_i, toBl_b, vw_i, vw_b, vw_t, vw_tI, vw_tT, vw_l, vw_s, vw_n, vw_ty, src_t, src_tI, src_tT, src_l, bin_add, bin_sub, neg_i, not_b, vw_c0, idx_l, atI_0]
        obtain ⟨m3, m4⟩ := fmod_rng (a := u ^ (5 : Int).toNat) (b := 4294967279) (by decide)
        generalize (u ^ (5 : Int).toNat).fmod 4294967279 = u2 at m3 m4
        rw [bin_div (by decide)]
        simp only [e_var, e_cst, e_ty, e_gfn, e_bin, e_cmp, e_chn, e_neg, e_nt, e_one, e_and, e_or, e_ite, e_tup, e_lst, e_idx, e_slc, o_none, o_some, e_call, e_blt, e_isi, a_nil, a_cons, i_of, i_rng, c_none, c_some, s_set, s_setLc, s_asg, s_par, s_stI, s_ex, s_ret, s_if, s_rai, s_pass, b_nil, b_cons, M.opt_some, R.bind_ok, getE_0, getE_s, List.map_cons, List.map_nil, List.cons_append, List.nil_append, List.length_cons, List.length_nil, List.replicate_succ, List.replicate_zero, Nat.reduceSub, Nat.reduceAdd, List.set_cons_zero, List.set_cons_succ, Option.map_some, BT.nm, wipeE, seqK_n, seqK_r, andK_t, andK_f, orK_f, orK_t, iteK_t, iteK_f, asgK_nm, asgK_t2, asgK_t3, endF_n, endF_r, slI_i, toBl_b, vw_i, vw_b, vw_t, vw_tI, vw_tT, vw_l, vw_s, vw_n, vw_ty, src_t, src_tI, src_tT, src_l, bin_add, bin_sub, neg_i, not_b, vw_c0, idx_l, atI_0]
        have m5 : (u2.fdiv 64).natAbs.log2 < 1000 := log_le (Nat.lt_of_le_of_lt (m := 4294967279) (by
          rw [Int.fdiv_eq_ediv_of_nonneg _ (by decide)]
          omega) (by decide +kernel)) (by decide)
        rw [bin_mul (by have : (69621 : Int).natAbs.log2 < 1000 := by decide
                        omega)]
        simp only [e_var, e_cst, e_ty, e_gfn, e_bin, e_cmp, e_chn, e_neg, e_nt, e_one, e_and, e_or, e_ite, e_tup, e_lst, e_idx, e_slc, o_none, o_some, e_call, e_blt, e_isi, a_nil, a_cons, i_of, i_rng, c_none, c_some, s_set, s_setLc, s_asg, s_par, s_stI, s_ex, s_ret, s_if, s_rai, s_pass, b_nil, b_cons, M.opt_some, R.bind_ok, getE_0, getE_s, List.map_cons, List.map_nil, List.cons_append, List.nil_append, List.length_cons, List.length_nil, List.replicate_succ, List.replicate_zero, Nat.reduceSub, Nat.reduceAdd, List.set_cons_zero, List.set_cons_succ, Option.map_some, BT.nm, wipeE, seqK_n, seqK_r, andK_t, andK_f, orK_f, orK_t, iteK_t, iteK_f, asgK_nm, asgK_t2, asgK_t3, endF_n, endF_r, slI_i, toBl_b, vw_i, vw_b, vw_t, vw_tI, vw_tT, vw_l, vw_s, vw_n, vw_ty, src_t, src_tI, src_tT, src_l, bin_add, bin_sub, neg_i, not_b, vw_c0, idx_l, atI_0]
        rw [bin_mod (by decide)]
        simp only [e_var, e_cst, e_ty, e_gfn, e_bin, e_cmp, e_chn, e_neg, e_nt, e_one, e_and, e_or, e_ite, e_tup, e_lst, e_idx, e_slc, o_none, o_some, e_call, e_blt, e_isi, a_nil, a_cons, i_of, i_rng, c_none, c_some, s_set, s_setLc, s_asg, s_par, s_stI, s_ex, s_ret, s_if, s_rai, s_pass, b_nil, b_cons, M.opt_some, R.bind_ok, getE_0, getE_s, List.map_cons, List.map_nil, List.cons_append, List.nil_append, List.length_cons, List.length_nil, List.replicate_succ, List.replicate_zero, Nat.reduceSub, Nat.reduceAdd, List.set_cons_zero, List.set_cons_succ, Option.map_some, BT.nm, wipeE, seqK_n, seqK_r, andK_t, andK_f, orK_f, orK_t, iteK_t, iteK_f, asgK_nm, asgK_t2, asgK_t3, endF_n, endF_r, slI_i, toBl_b, vw_i, vw_b, vw_t, vw_tI, vw_tT, vw_l, vw_s, vw_n, vw_ty, src_t, src_tI, src_tT, src_l, bin_add, bin_sub, neg_i, not_b, vw_c0, idx_l, atI_0]
        rw [bin_div (by decide)]
        simp only [e_var, e_cst, e_ty, e_gfn, e_bin, e_cmp, e_chn, e_neg, e_nt, e_one, e_and, e_or, e_ite, e_tup, e_lst, e_idx, e_slc, o_none, o_some, e_call, e_blt, e_isi, a_nil, a_cons, i_of, i_rng, c_none, c_some, s_set, s_setLc, s_asg, s_par, s_stI, s_ex, s_ret, s_if, s_rai, s_pass, b_nil, b_cons, M.opt_some, R.bind_ok, getE_0, getE_s, List.map_cons, List.map_nil, List.cons_append, List.nil_append, List.length_cons, List.length_nil, List.replicate_succ, List.replicate_zero, Nat.reduceSub, Nat.reduceAdd, List.set_cons_zero, List.set_cons_succ, Option.map_some, BT.nm, wipeE, seqK_n, seqK_r, andK_t, andK_f, orK_f, orK_t, iteK_t, iteK_f, asgK_nm, asgK_t2, asgK_t3, endF_n, endF_r, slI_i, toBl_b, vw_i, vw_b, vw_t, vw_tI, vw_tT, vw_l, vw_s, vw_n, vw_ty, src_t, src_tI, src_tT, src_l, bin_add, bin_sub, neg_i, not_b, vw_c0, idx_l, atI_0]
        rw [bin_mod (by omega)]
        simp only [e_var, e_cst, e_ty, e_gfn, e_bin, e_cmp, e_chn, e_neg, e_nt, e_one, e_and, e_or, e_ite, e_tup, e_lst, e_idx, e_slc, o_none, o_some, e_call, e_blt, e_isi, a_nil, a_cons, i_of, i_rng, c_none, c_some, s_set, s_setLc, s_asg, s_par, s_stI, s_ex, s_ret, s_if, s_rai, s_pass, b_nil, b_cons, M.opt_some, R.bind_ok, getE_0, getE_s, List.map_cons, List.map_nil, List.cons_append, List.nil_append, List.length_cons, List.length_nil, List.replicate_succ, List.replicate_zero, Nat.reduceSub, Nat.reduceAdd, List.set_cons_zero, List.set_cons_succ, Option.map_some, BT.nm, wipeE, seqK_n, seqK_r, andK_t, andK_f, orK_f, orK_t, iteK_t, iteK_f, asgK_nm, asgK_t2, asgK_t3, endF_n, endF_r, slI_i, toBl_b, vw_i, vw_b, vw_t, vw_tI, vw_tT, vw_l, vw_s, vw_n, vw_ty, src_t, src_tI, src_tT, src_l, bin_add, bin_sub, neg_i, not_b, vw_c0, idx_l, atI_0]
        exact ⟨_, rfl, (fmod_rng (by omega)).1, (fmod_rng (by omega)).2, c + 1, ys, rfl, hb1.1, hb1.2, hy⟩
    · simp only [decide_eq_false hw, e_var, e_cst, e_ty, e_gfn, e_bin, e_cmp, e_chn, e_neg, e_nt, e_one, e_and, e_or, e_ite, e_tup, e_lst, e_idx, e_slc, o_none, o_some, e_call, e_blt, e_isi, a_nil, a_cons, i_of, i_rng, c_none, c_some, s_set, s_setLc, s_asg, s_par, s_stI, s_ex, s_ret, s_if, s_rai, s_pass, b_nil, b_cons, M.opt_some, R.bind_ok, getE_0, getE_s, List.map_cons, List.map_nil, List.cons_append, List.nil_append, List.length_cons, List.length_nil, List.replicate_succ, List.replicate_zero, Nat.reduceSub, Nat.reduceAdd, List.set_cons_zero, List.set_cons_succ, Option.map_some, BT.nm, wipeE, seqK_n, seqK_r, andK_t, andK_f, orK_f, orK_t, iteK_t, iteK_f, asgK_nm, asgK_t2, asgK_t3, endF_n, endF_r, slI_i, toBl_b, vw_i, vw_b, vw_t, vw_tI, vw_tT, vw_l, vw_s, vw_n, vw_ty, src_t, src_tI, src_tT, src_l, bin_add, bin_sub, neg_i, not_b]
      simp only [e_var, e_cst, e_ty, e_gfn, e_bin, e_cmp, e_chn, e_neg, e_nt, e_one, e_and, e_or, e_ite, e_tup, e_lst, e_idx, e_slc, o_none, o_some, e_call, e_blt, e_isi, a_nil, a_cons, i_of, i_rng, c_none, c_some, s_set, s_setLc, s_asg, s_par, s_stI, s_ex, s_ret, s_if, s_rai, s_pass, b_nil, b_cons, M.opt_some, R.bind_ok, getE_0, getE_s, List.map_cons, List.map_nil, List.cons_append, List.nil_append, List.length_cons, List.length_nil, List.replicate_succ, List.replicate_zero, Nat.reduceSub, Nat.reduceAdd, List.set_cons_zero, List.set_cons_succ, Option.map_some, BT.nm, wipeE, seqK_n, seqK_r, andK_t, andK_f, orK_f, orK_t, iteK_t, iteK_f, asgK_nm, asgK_t2, asgK_t3, endF_n, endF_r, slI_i, toBl_b, vw_i, vw_b, vw_t, vw_tI, vw_tT, vw_l, vw_s, vw_n, vw_ty, src_t, src_tI, src_tT, src_l, bin_add, bin_sub, neg_i, not_b, vw_c0, idx_l, atI_0, a2']
      rw [bin_mul (by have : (104729 : Int).natAbs.log2 < 1000 := by decide
                      omega)]
      simp only [e_var, e_cst, e_ty, e_gfn, e_bin, e_cmp, e_chn, e_neg, e_nt, e_one, e_and, e_or, e_ite, e_tup, e_lst, e_idx, e_slc, o_none, o_some, e_call, e_blt, e_isi, a_nil, a_cons, i_of, i_rng, c_none, c_some, s_set, s_setLc, s_asg, s_par, s_stI, s_ex, s_ret, s_if, s_rai, s_pass, b_nil, b_cons, M.opt_some, R.bind_ok, getE_0, getE_s, List.map_cons, List.map_nil, List.cons_append, List.nil_append, List.length_cons, List.length_nil, List.replicate_succ, List.replicate_zero, Nat.reduceSub, Nat.reduceAdd, List.set_cons_zero, List.set_cons_succ, Option.map_some, BT.nm, wipeE, seqK_n, seqK_r, andK_t, andK_f, orK_f, orK_t, iteK_t, iteK_f, asgK_nm, asgK_t2, asgK_t3, endF_n, endF_r, slI_i, toBl_b, vw_i, vw_b, vw_t, vw_tI, vw_tT, vw_l, vw_s, vw_n, vw_ty, src_t, src_tI, src_tT, src_l, bin_add, bin_sub, neg_i, not_b, vw_c0, idx_l, atI_0]
      rw [bin_mod (by decide)]
      simp only [e_var, e_cst, e_ty, e_gfn, e_bin, e_cmp, e_chn, e_neg, e_nt, e_one, e_and, e_or, e_ite, e_tup, e_lst, e_idx, e_slc, o_none, o_some, e_call, e_blt, e_isi, a_nil, a_cons, i_of, i_rng, c_none, c_some, s_set, s_setLc, s_asg, s_par, s_stI, s_ex, s_ret, s_if, s_rai, s_pass, b_nil, b_cons, M.opt_some, R.bind_ok, getE_0, getE_s, List.map_cons, List.map_nil, List.cons_append, List.nil_append, List.length_cons, List.length_nil, List.replicate_succ, List.replicate_zero, Nat.reduceSub, Nat.reduceAdd, List.set_cons_zero, List.set_cons_succ, Option.map_some, BT.nm, wipeE, seqK_n, seqK_r, andK_t, andK_f, orK_f, orK_t, iteK_t, iteK_f, asgK_nm, asgK_t2, asgK_t3, endF_n, endF_r, slI_i, toBl_b, vw_i, vw_b, vw_t, vw_tI, vw_tT, vw_l, vw_s, vw_n, vw_ty, src_t, src_tI, src_tT, src_l, bin_add, bin_sub, neg_i, not_b, vw_c0, idx_l, atI_0]
      obtain ⟨m1, m2⟩ := fmod_rng (a := w + 104729 * (c + 1)) (b := 4294967291) (by decide)
      generalize (w + 104729 * (c + 1)).fmod 4294967291 = u at m1 m2
      rw [bin_pow ⟨by decide, by decide, by omega⟩]
      simp only [e_var, e_cst, e_ty, e_gfn, e_bin, e_cmp, e_chn, e_neg, e_nt, e_one, e_and, e_or, e_ite, e_tup, e_lst, e_idx, e_slc, o_none, o_some, e_call, e_blt, e_isi, a_nil, a_cons, i_of, i_rng, c_none, c_some, s_set, s_setLc, s_asg, s_par, s_stI, s_ex, s_ret, s_if, s_rai, s_pass, b_nil, b_cons, M.opt_some, R.bind_ok, getE_0, getE_s, List.map_cons, List.map_nil, List.cons_append, List.nil_append, List.length_cons, List.length_nil, List.replicate_succ, List.replicate_zero, Nat.reduceSub, Nat.reduceAdd, List.set_cons_zero, List.set_cons_succ, Option.map_some, BT.nm, wipeE, seqK_n, seqK_r, andK_t, andK_f, orK_f, orK_t, iteK_t, iteK_f, asgK_nm, asgK_t2, asgK_t3, endF_n, endF_r, slI_i, toBl_b, vw_i, vw_b, vw_t, vw_tI, vw_tT, vw_l, vw_s, vw_n, vw_ty, src_t, src_tI, src_tT, src_l, bin_add, bin_sub, neg_i, not_b, vw_c0, idx_l, atI_0]
      rw [bin_mod (by decide)]
      simp only [e_var, e_cst, e_ty, e_gfn, e_bin, e_cmp, e_chn, e_neg, e_nt, e_one, e_and, e_or, e_ite, e_tup, e_lst, e_idx, e_slc, o_none, o_some, e_call, e_blt, e_isi, a_nil, a_cons, i_of, i_rng, c_none, c_some, s_set, s_setLc, s_asg, s_par, s_stI, s_ex, s_ret, s_if, s_rai, s_pass, b_nil, b_cons, M.opt_some, R.bind_ok, getE_0, getE_s, List.map_cons, List.map_nil, List.cons_append, List.nil_append, List.length_cons, List.length_nil, List.replicate_succ, List.replicate_zero, Nat.reduceSub, Nat.reduceAdd, List.set_cons_zero, List.set_cons_succ, Option.map_some, BT.nm, wipeE, seqK_n, seqK_r, andK_t, andK_f, orK_f, orK_t, iteK_t, iteK_f, asgK_nm, asgK_t2, asgK_t3, endF_n, endF_r, slI_i, toBl_b, vw_i, vw_b, vw_t, vw_tI, vw_tT, vw_l, vw_s, vw_n, vw_ty, src_t, src_tI, src_tT, src_l, bin_add, bin_sub, neg_i, not_b, vw_c0, idx_l, atI_0]
      obtain ⟨m3, m4⟩ := fmod_rng (a := u ^ (5 : Int).toNat) (b := 4294967279) (by decide)
      generalize (u ^ (5 : Int).toNat).fmod 4294967279 = u2 at m3 m4
      rw [bin_div (by decide)]
      simp only [e_var, e_cst, e_ty, e_gfn, e_bin, e_cmp, e_chn, e_neg, e_nt, e_one, e_and, e_or, e_ite, e_tup, e_lst, e_idx, e_slc, o_none, o_some, e_call, e_blt, e_isi, a_nil, a_cons, i_of, i_rng, c_none, c_some, s_set, s_setLc, s_asg, s_par, s_stI, s_ex, s_ret, s_if, s_rai, s_pass, b_nil, b_cons, M.opt_some, R.bind_ok, getE_0, getE_s, List.map_cons, List.map_nil, List.cons_append, List.nil_append, List.length_cons, List.length_nil, List.replicate_succ, List.replicate_zero, Nat.reduceSub, Nat.reduceAdd, List.set_cons_zero, List.set_cons_succ, Option.map_some, BT.nm, wipeE, seqK_n, seqK_r, andK_t, andK_f, orK_f, orK_t, iteK_t, iteK_f, asgK_nm, asgK_t2, asgK_t3, endF_n, endF_r, slI_i, toBl_b, vw_i, vw_b, vw_t, vw_tI, vw_tT, vw_l, vw_s, vw_n, vw_ty, src_t, src_tI, src_tT, src_l, bin_add, bin_sub, neg_i, not_b, vw_c0, idx_l, atI_0]
      have m5 : (u2.fdiv 64).natAbs.log2 < 1000 := log_le (Nat.lt_of_le_of_lt (m := 4294967279) (by
        rw [Int.fdiv_eq_ediv_of_nonneg _ (by decide)]
        omega) (by decide +kernel)) (by decide)
      rw [bin_mul (by have : (69621 : Int).natAbs.log2 < 1000 := by decide
                      omega)]
      simp only [e_var, e_cst, e_ty, e_gfn, e_bin, e_cmp, e_chn, e_neg, e_nt, e_one, e_and, e_or, e_ite, e_tup, e_lst, e_idx, e_slc, o_none, o_some, e_call, e_blt, e_isi, a_nil, a_cons, i_of, i_rng, c_none, c_some, s_set, s_setLc, s_asg, s_par, s_stI, s_ex, s_ret, s_if, s_rai, s_pass, b_nil, b_cons, M.opt_some, R.bind_ok, getE_0, getE_s, List.map_cons, List.map_nil, List.cons_append, List.nil_append, List.length_cons, List.length_nil, List.replicate_succ, List.replicate_zero, Nat.reduceSub, Nat.reduceAdd, List.set_cons_zero, List.set_cons_succ, Option.map_some, BT.nm, wipeE, seqK_n, seqK_r, andK_t, andK_f, orK_f, orK_t, iteK_t, iteK_f, asgK_nm, asgK_t2, asgK_t3, endF_n, endF_r, slI_i, toBl_b, vw_i, vw_b, vw_t, vw_tI, vw_tT, vw_l, vw_s, vw_n, vw_ty, src_t, src_tI, src_tT, src_l, bin_add, bin_sub, neg_i, not_b, vw_c0, idx_l, atI_0]
      rw [bin_mod (by decide)]
      simp only [e_var, e_cst, e_ty, e_gfn, e_bin, e_cmp, e_chn, e_neg, e_nt, e_one, e_and, e_or, e_ite, e_tup, e_lst, e_idx, e_slc, o_none, o_some, e_call, e_blt, e_isi, a_nil, a_cons, i_of, i_rng, c_none, c_some, s_set, s_setLc, s_asg, s_par, s_stI, s_ex, s_ret, s_if, s_rai, s_pass, b_nil, b_cons, M.opt_some, R.bind_ok, getE_0, getE_s, List.map_cons, List.map_nil, List.cons_append, List.nil_append, List.length_cons, List.length_nil, List.replicate_succ, List.replicate_zero, Nat.reduceSub, Nat.reduceAdd, List.set_cons_zero, List.set_cons_succ, Option.map_some, BT.nm, wipeE, seqK_n, seqK_r, andK_t, andK_f, orK_f, orK_t, iteK_t, iteK_f, asgK_nm, asgK_t2, asgK_t3, endF_n, endF_r, slI_i, toBl_b, vw_i, vw_b, vw_t, vw_tI, vw_tT, vw_l, vw_s, vw_n, vw_ty, src_t, src_tI, src_tT, src_l, bin_add, bin_sub, neg_i, not_b, vw_c0, idx_l, atI_0]
      rw [bin_div (by decide)]
      simp only [e_var, e_cst, e_ty, e_gfn, e_bin, e_cmp, e_chn, e_neg, e_nt, e_one, e_and, e_or, e_ite, e_tup, e_lst, e_idx, e_slc, o_none, o_some, e_call, e_blt, e_isi, a_nil, a_cons, i_of, i_rng, c_none, c_some, s_set, s_setLc, s_asg, s_par, s_stI, s_ex, s_ret, s_if, s_rai, s_pass, b_nil, b_cons, M.opt_some, R.bind_ok, getE_0, getE_s, List.map_cons, List.map_nil, List.cons_append, List.nil_append, List.length_cons, List.length_nil, List.replicate_succ, List.replicate_zero, Nat.reduceSub, Nat.reduceAdd, List.set_cons_zero, List.set_cons_succ, Option.map_some, BT.nm, wipeE, seqK_n, seqK_r, andK_t, andK_f, orK_f, orK_t, iteK_t, iteK_f, asgK_nm, asgK_t2, asgK_t3, endF_n, endF_r, slI_i, toBl_b, vw_i, vw_b, vw_t, vw_tI, vw_tT, vw_l, vw_s, vw_n, vw_ty, src_t, src_tI, src_tT, src_l, bin_add, bin_sub, neg_i, not_b, vw_c0, idx_l, atI_0]
      rw [bin_mod (by omega)]
      simp only [e_var, e_cst, e_ty, e_gfn, e_bin, e_cmp, e_chn, e_neg, e_nt, e_one, e_and, e_or, e_ite, e_tup, e_lst, e_idx, e_slc, o_none, o_some, e_call, e_blt, e_isi, a_nil, a_cons, i_of, i_rng, c_none, c_some, s_set, s_setLc, s_asg, s_par, s_stI, s_ex, s_ret, s_if, s_rai, s_pass, b_nil, b_cons, M.opt_some, R.bind_ok, getE_0, getE_s, List.map_cons, List.map_nil, List.cons_append, List.nil_append, List.length_cons, List.length_nil, List.replicate_succ, List.replicate_zero, Nat.reduceSub, Nat.reduceAdd, List.set_cons_zero, List.set_cons_succ, Option.map_some, BT.nm, wipeE, seqK_n, seqK_r, andK_t, andK_f, orK_f, orK_t, iteK_t, iteK_f, asgK_nm, asgK_t2, asgK_t3, endF_n, endF_r, slI_i, toBl_b, vw_i, vw_b, vw_t, vw_tI, vw_tT, vw_l, vw_s, vw_n, vw_ty, src_t, src_tI, src_tT, src_l, bin_add, bin_sub, neg_i, not_b, vw_c0, idx_l, atI_0]
      exact ⟨_, rfl, (fmod_rng (by omega)).1, (fmod_rng (by omega)).2, c + 1, ys, rfl, hb1.1, hb1.2, hy⟩
end
end LC

set_option maxHeartbeats 4000000
/-! P5: drawn families. -/
namespace LC
open PySem PySem.Spec PyProof.Rows L2
theorem R.bind_assoc {α β γ : Type} (r : R α) (f : α → M β) (g : β → M γ) : (r.bind f).bind g = r.bind fun a S => (f a S).bind g := by
  cases r <;> rfl
theorem lcE_wp {cf : Str → List D → M D} {ρ : Env} {S S1 : Store} {vs : List Nat} {s : LI} {tg : LT} {c : LO} {e : LE} {xs : List D} (he : evI cf s ρ S = .ok (.fix xs) S1) (I : Nat → List D → Store → Prop) (h0 : I 0 [] S1)
    (hs : ∀ i d acc S', xs[i]? = some d → I i acc S' → ∃ ρ', asgT tg d (wipeE ρ vs) = some ρ' ∧ Wp (condM (evO cf c) ρ' S') (fun t S'' => if t = true then Wp (evE cf e ρ' S'') (fun y S3 => I (i + 1) (acc ++ [y]) S3) else I (i + 1) acc S'')) :
    Wp (evE cf (.lc vs s tg c e) ρ S) (fun d S' => ∃ ys, d = .lst ys ∧ I xs.length ys S') := wp_lc he I h0 hs
section
variable {fs : Str → Option Fn} {k : Nat} {S T : Store} {ns : List Int} {b : Nat}
abbrev DrawOk (fs : Str → Option Fn) : Prop := fs "_law_draw" = some ⟨3, 6, b__law_draw⟩
theorem r_town (h : fs "_law_town" = some ⟨1, 1, b__law_town⟩) (hl : ns.length ≤ 63) : Wp (runF fs (k + 1) "_law_town" [lI ns] []) (fun d S' => d = .cell 0 ∧ Tn ns [] 0 S') := by
  rw [rf_eq h]
  have e : (1 + (ns.map D.int).length ≤ line) := by
    rw [List.length_map]
    show 1 + ns.length ≤ 16777216
    omega
  simp only [b__law_town, e_var, e_cst, e_ty, e_gfn, e_bin, e_cmp, e_chn, e_neg, e_nt, e_one, e_and, e_or, e_ite, e_tup, e_lst, e_idx, e_slc, o_none, o_some, e_call, e_blt, e_isi, a_nil, a_cons, i_of, i_rng, c_none, c_some, s_set, s_setLc, s_asg, s_par, s_stI, s_ex, s_ret, s_if, s_rai, s_pass, b_nil, b_cons, M.opt_some, R.bind_ok, getE_0, getE_s, List.map_cons, List.map_nil, List.cons_append, List.nil_append, List.length_cons, List.length_nil, List.replicate_succ, List.replicate_zero, Nat.reduceSub, Nat.reduceAdd, List.set_cons_zero, List.set_cons_succ, Option.map_some, BT.nm, wipeE, seqK_n, seqK_r, andK_t, andK_f, orK_f, orK_t, iteK_t, iteK_f, asgK_nm, asgK_t2, asgK_t3, endF_n, endF_r, slI_i, toBl_b, vw_i, vw_b, vw_t, vw_tI, vw_tT, vw_l, vw_s, vw_n, vw_ty, src_t, src_tI, src_tT, src_l, bin_add, bin_sub, neg_i, not_b, R.bind_assoc, e_addC, e_lst, lI, list_l]
  rw [if_pos e]
  exact ⟨rfl, 0, ns, rfl, by omega, by omega, rfl⟩
theorem inc_all {n : Int} {a b : Int} (h : (a ≠ b)) (ha : 0 ≤ a ∧ a ≤ n - 1) (hb : 0 ≤ b ∧ b ≤ n - 1) {ys : List Int} (hp : ys.Perm [a, b]) (hs : ys.Pairwise (· ≤ ·)) : lotOk n ys := by
  refine ⟨fun z => ?_, fun x hx => ?_, ?_⟩
  · subst z
    have := hp.length_eq
    simp at this
  · have := hp.mem_iff.mp hx
    simp at this
    rcases this with rfl | rfl
    · exact ha
    · exact hb
  · have hd : ys.Nodup := hp.nodup_iff.mpr (by simp [h])
    exact hs.imp₂ (fun x y h1 h2 => by omega) hd
/-- draws a family -/
theorem r_family (h : DrawOk fs) (h' : fs "_law_family" = some ⟨3, 10, b__law_family⟩) {most : Int} (hm : 1 ≤ most ∧ most ≤ 7) (hb : b ≤ 900000) (ht : Tn ns T b S) :
    Wp (runF fs (k + 2) "_law_family" [lI ns, .cell 0, .int most] S) (fun d S' => ∃ n ss, d = fam n ss ∧ n ≤ most ∧ FamOk n ss ∧ Tn ns T (b + 100) S') := by
  rw [rf_eq h']
  simp only [b__law_family, e_var, e_cst, e_ty, e_gfn, e_bin, e_cmp, e_chn, e_neg, e_nt, e_one, e_and, e_or, e_ite, e_tup, e_lst, e_idx, e_slc, o_none, o_some, e_call, e_blt, e_isi, a_nil, a_cons, i_of, i_rng, c_none, c_some, s_set, s_setLc, s_asg, s_par, s_stI, s_ex, s_ret, s_if, s_rai, s_pass, b_nil, b_cons, M.opt_some, R.bind_ok, getE_0, getE_s, List.map_cons, List.map_nil, List.cons_append, List.nil_append, List.length_cons, List.length_nil, List.replicate_succ, List.replicate_zero, Nat.reduceSub, Nat.reduceAdd, List.set_cons_zero, List.set_cons_succ, Option.map_some, BT.nm, wipeE, seqK_n, seqK_r, andK_t, andK_f, orK_f, orK_t, iteK_t, iteK_f, asgK_nm, asgK_t2, asgK_t3, endF_n, endF_r, slI_i, toBl_b, vw_i, vw_b, vw_t, vw_tI, vw_tT, vw_l, vw_s, vw_n, vw_ty, src_t, src_tI, src_tT, src_l, bin_add, bin_sub, neg_i, not_b, R.bind_assoc, e_lst]
  refine Wp.bind ((r_draw h (lim := most) (by omega) (by omega) ht).mono fun d S1 hd => ?_)
  obtain ⟨v, rfl, v0, v1, ht1⟩ := hd
  simp only [e_var, e_cst, e_ty, e_gfn, e_bin, e_cmp, e_chn, e_neg, e_nt, e_one, e_and, e_or, e_ite, e_tup, e_lst, e_idx, e_slc, o_none, o_some, e_call, e_blt, e_isi, a_nil, a_cons, i_of, i_rng, c_none, c_some, s_set, s_setLc, s_asg, s_par, s_stI, s_ex, s_ret, s_if, s_rai, s_pass, b_nil, b_cons, M.opt_some, R.bind_ok, getE_0, getE_s, List.map_cons, List.map_nil, List.cons_append, List.nil_append, List.length_cons, List.length_nil, List.replicate_succ, List.replicate_zero, Nat.reduceSub, Nat.reduceAdd, List.set_cons_zero, List.set_cons_succ, Option.map_some, BT.nm, wipeE, seqK_n, seqK_r, andK_t, andK_f, orK_f, orK_t, iteK_t, iteK_f, asgK_nm, asgK_t2, asgK_t3, endF_n, endF_r, slI_i, toBl_b, vw_i, vw_b, vw_t, vw_tI, vw_tT, vw_l, vw_s, vw_n, vw_ty, src_t, src_tI, src_tT, src_l, bin_add, bin_sub, neg_i, not_b, R.bind_assoc, e_lst]
  refine Wp.bind ((r_draw h (lim := 3) (by omega) (by omega) ht1).mono fun d S2 hd => ?_)
  obtain ⟨o, rfl, o0, o1, ht2⟩ := hd
  simp only [e_var, e_cst, e_ty, e_gfn, e_bin, e_cmp, e_chn, e_neg, e_nt, e_one, e_and, e_or, e_ite, e_tup, e_lst, e_idx, e_slc, o_none, o_some, e_call, e_blt, e_isi, a_nil, a_cons, i_of, i_rng, c_none, c_some, s_set, s_setLc, s_asg, s_par, s_stI, s_ex, s_ret, s_if, s_rai, s_pass, b_nil, b_cons, M.opt_some, R.bind_ok, getE_0, getE_s, List.map_cons, List.map_nil, List.cons_append, List.nil_append, List.length_cons, List.length_nil, List.replicate_succ, List.replicate_zero, Nat.reduceSub, Nat.reduceAdd, List.set_cons_zero, List.set_cons_succ, Option.map_some, BT.nm, wipeE, seqK_n, seqK_r, andK_t, andK_f, orK_f, orK_t, iteK_t, iteK_f, asgK_nm, asgK_t2, asgK_t3, endF_n, endF_r, slI_i, toBl_b, vw_i, vw_b, vw_t, vw_tI, vw_tT, vw_l, vw_s, vw_n, vw_ty, src_t, src_tI, src_tT, src_l, bin_add, bin_sub, neg_i, not_b, R.bind_assoc, e_lst, cmp_gt]
  -- the second name
  have key : ∀ (p : Bool) (S3 : Store), (p = true → 2 < 1 + v) → Tn ns T (b + 3) S3 → Wp (((exS (runF fs (k + 1)) (.for_ (.rng (.cons (.bin .Add (.cst (.int 1)) (.call "_law_draw" (.cons (.var 0) (.cons (.var 1) (.cons (.cst (.int 8)) .nil))))) .nil)) (.nm 7) (.cons (.ifs (.var 6) (.cons (.set 8 (.call "_law_draw" (.cons (.var 0) (.cons (.var 1) (.cons (.var 3) .nil)))))
    (.cons (.set 9 (.blt .sorted (.cons (.lst (.cons (.var 8) (.cons (.bin .Mod (.bin .Add (.bin .Add (.var 8) (.cst (.int 1))) (.call "_law_draw" (.cons (.var 0) (.cons (.var 1) (.cons (.cst (.int 2)) .nil))))) (.var 3)) .nil))) .nil)))
    .nil)) (.cons (.setLc 9 (.lc [8] (.rng (.cons (.var 3) .nil)) (.nm 8) (.some (.cmp .Lt (.call "_law_draw" (.cons (.var 0) (.cons (.var 1) (.cons (.cst (.int 4)) .nil)))) (.var 5))) (.var 8)))
    .nil))
    (.cons (.set 9 (.blt .tuple (.cons (.ite (.cmp .NotEq (.var 9) (.lst .nil)) (.var 9) (.lst (.cons (.call "_law_draw" (.cons (.var 0) (.cons (.var 1) (.cons (.var 3) .nil)))) .nil))) .nil)))
    (.cons (.set 4 (.bin .Add (.var 4) (.ite (.cmp .NotIn (.var 9) (.var 4)) (.lst (.cons (.var 9) .nil)) (.lst .nil))))
    .nil)))) [some (lI ns), some (.cell 0), some (.int most), some (.int (1 + v)), some (.lst []), some (.int (1 + o)), some (.bl p), none, none, none] S3)))
      (fun f S' => ∃ found t1 t2 t3, f = .nx [some (lI ns), some (.cell 0), some (.int most), some (.int (1 + v)), some (.lst (found.map tI)), some (.int (1 + o)), some (.bl p), t1, t2, t3] ∧ Tn ns T (b + 100) S' ∧ (∀ s ∈ found, lotOk (1 + v) s) ∧ found.Nodup ∧ found.length ≤ 8 ∧ found ≠ []) := by
    intro p S3 hp ht3
    rw [s_for]
    have hi : Wp (evI (runF fs (k + 1)) (.rng (.cons (.bin .Add (.cst (.int 1)) (.call "_law_draw" (.cons (.var 0) (.cons (.var 1) (.cons (.cst (.int 8)) .nil))))) .nil)) [some (lI ns), some (.cell 0), some (.int most), some (.int (1 + v)), some (.lst []), some (.int (1 + o)), some (.bl p), none, none, none] S3) (fun s S4 => ∃ m : Nat, s = .fix ((List.range m).map fun i : Nat => D.int (i : Int)) ∧ 1 ≤ m ∧ m ≤ 8 ∧ Tn ns T (b + 4) S4) := by
      simp only [e_var, e_cst, e_ty, e_gfn, e_bin, e_cmp, e_chn, e_neg, e_nt, e_one, e_and, e_or, e_ite, e_tup, e_lst, e_idx, e_slc, o_none, o_some, e_call, e_blt, e_isi, a_nil, a_cons, i_of, i_rng, c_none, c_some, s_set, s_setLc, s_asg, s_par, s_stI, s_ex, s_ret, s_if, s_rai, s_pass, b_nil, b_cons, M.opt_some, R.bind_ok, getE_0, getE_s, List.map_cons, List.map_nil, List.cons_append, List.nil_append, List.length_cons, List.length_nil, List.replicate_succ, List.replicate_zero, Nat.reduceSub, Nat.reduceAdd, List.set_cons_zero, List.set_cons_succ, Option.map_some, BT.nm, wipeE, seqK_n, seqK_r, andK_t, andK_f, orK_f, orK_t, iteK_t, iteK_f, asgK_nm, asgK_t2, asgK_t3, endF_n, endF_r, slI_i, toBl_b, vw_i, vw_b, vw_t, vw_tI, vw_tT, vw_l, vw_s, vw_n, vw_ty, src_t, src_tI, src_tT, src_l, bin_add, bin_sub, neg_i, not_b, R.bind_assoc]
      refine Wp.bind ((r_draw h (lim := 8) (by omega) (by omega) ht3).mono fun d S4 hd => ?_)
      obtain ⟨u, rfl, u0, u1, ht4⟩ := hd
      simp only [e_var, e_cst, e_ty, e_gfn, e_bin, e_cmp, e_chn, e_neg, e_nt, e_one, e_and, e_or, e_ite, e_tup, e_lst, e_idx, e_slc, o_none, o_some, e_call, e_blt, e_isi, a_nil, a_cons, i_of, i_rng, c_none, c_some, s_set, s_setLc, s_asg, s_par, s_stI, s_ex, s_ret, s_if, s_rai, s_pass, b_nil, b_cons, M.opt_some, R.bind_ok, getE_0, getE_s, List.map_cons, List.map_nil, List.cons_append, List.nil_append, List.length_cons, List.length_nil, List.replicate_succ, List.replicate_zero, Nat.reduceSub, Nat.reduceAdd, List.set_cons_zero, List.set_cons_succ, Option.map_some, BT.nm, wipeE, seqK_n, seqK_r, andK_t, andK_f, orK_f, orK_t, iteK_t, iteK_f, asgK_nm, asgK_t2, asgK_t3, endF_n, endF_r, slI_i, toBl_b, vw_i, vw_b, vw_t, vw_tI, vw_tT, vw_l, vw_s, vw_n, vw_ty, src_t, src_tI, src_tT, src_l, bin_add, bin_sub, neg_i, not_b, R.bind_assoc]
      rw [rng_1 (by omega), rangeD_n]
      exact ⟨(1 + u).toNat, rfl, by omega, by omega, ht4⟩
    obtain ⟨s, S4, e, m, rfl, m1, m8, ht4⟩ := hi.get
    refine wp_for e (fun i ρ S' => ∃ found t1 t2 t3, ρ = [some (lI ns), some (.cell 0), some (.int most), some (.int (1 + v)), some (.lst (found.map tI)), some (.int (1 + o)), some (.bl p), t1, t2, t3] ∧ Tn ns T (b + 4 + 10 * i) S' ∧ (∀ s ∈ found, lotOk (1 + v) s) ∧ found.Nodup ∧ found.length ≤ i ∧ (0 < i → found ≠ [])) _ ⟨[], none, none, none, rfl, ht4, by simp, by simp, by simp, by simp⟩ (fun i d ρ S' hx hI => ?_) (fun ρ S' hI => ?_)
    · obtain ⟨found, t1, t2, t3, rfl, ht5, g1, g2, g3, g4⟩ := hI
      have him : i < m := by
        have := (List.getElem?_eq_some_iff.mp hx).1
        simpa using this
      refine ⟨_, rfl, ?_⟩
      -- one, as a list
      have first : ∀ (ρ0 : Env), ρ0 = [some (lI ns), some (.cell 0), some (.int most), some (.int (1 + v)), some (.lst (found.map tI)), some (.int (1 + o)), some (.bl p), some d, t2, t3] → Wp (exS (runF fs (k + 1)) (.ifs (.var 6) (.cons (.set 8 (.call "_law_draw" (.cons (.var 0) (.cons (.var 1) (.cons (.var 3) .nil)))))
    (.cons (.set 9 (.blt .sorted (.cons (.lst (.cons (.var 8) (.cons (.bin .Mod (.bin .Add (.bin .Add (.var 8) (.cst (.int 1))) (.call "_law_draw" (.cons (.var 0) (.cons (.var 1) (.cons (.cst (.int 2)) .nil))))) (.var 3)) .nil))) .nil)))
    .nil)) (.cons (.setLc 9 (.lc [8] (.rng (.cons (.var 3) .nil)) (.nm 8) (.some (.cmp .Lt (.call "_law_draw" (.cons (.var 0) (.cons (.var 1) (.cons (.cst (.int 4)) .nil)))) (.var 5))) (.var 8)))
    .nil)) ρ0 S') (fun f S'' => ∃ (t : Option D) (ys : List Int), f = .nx [some (lI ns), some (.cell 0), some (.int most), some (.int (1 + v)), some (.lst (found.map tI)), some (.int (1 + o)), some (.bl p), some d, t, some (.lst (ys.map D.int))] ∧ (ys ≠ [] → lotOk (1 + v) ys) ∧ Tn ns T (b + 4 + 10 * i + 8) S'') := by
        rintro ρ0 rfl
        cases p with
        | true =>
          have h2 := hp rfl
          simp only [e_var, e_cst, e_ty, e_gfn, e_bin, e_cmp, e_chn, e_neg, e_nt, e_one, e_and, e_or, e_ite, e_tup, e_lst, e_idx, e_slc, o_none, o_some, e_call, e_blt, e_isi, a_nil, a_cons, i_of, i_rng, c_none, c_some, s_set, s_setLc, s_asg, s_par, s_stI, s_ex, s_ret, s_if, s_rai, s_pass, b_nil, b_cons, M.opt_some, R.bind_ok, getE_0, getE_s, List.map_cons, List.map_nil, List.cons_append, List.nil_append, List.length_cons, List.length_nil, List.replicate_succ, List.replicate_zero, Nat.reduceSub, Nat.reduceAdd, List.set_cons_zero, List.set_cons_succ, Option.map_some, BT.nm, wipeE, seqK_n, seqK_r, andK_t, andK_f, orK_f, orK_t, iteK_t, iteK_f, asgK_nm, asgK_t2, asgK_t3, endF_n, endF_r, slI_i, toBl_b, vw_i, vw_b, vw_t, vw_tI, vw_tT, vw_l, vw_s, vw_n, vw_ty, src_t, src_tI, src_tT, src_l, bin_add, bin_sub, neg_i, not_b, R.bind_assoc, e_lst]
          refine Wp.bind ((r_draw h (lim := 1 + v) (by omega) (by omega) ht5).mono fun d S6 hd => ?_)
          obtain ⟨q, rfl, q0, q1, ht6⟩ := hd
          simp only [e_var, e_cst, e_ty, e_gfn, e_bin, e_cmp, e_chn, e_neg, e_nt, e_one, e_and, e_or, e_ite, e_tup, e_lst, e_idx, e_slc, o_none, o_some, e_call, e_blt, e_isi, a_nil, a_cons, i_of, i_rng, c_none, c_some, s_set, s_setLc, s_asg, s_par, s_stI, s_ex, s_ret, s_if, s_rai, s_pass, b_nil, b_cons, M.opt_some, R.bind_ok, getE_0, getE_s, List.map_cons, List.map_nil, List.cons_append, List.nil_append, List.length_cons, List.length_nil, List.replicate_succ, List.replicate_zero, Nat.reduceSub, Nat.reduceAdd, List.set_cons_zero, List.set_cons_succ, Option.map_some, BT.nm, wipeE, seqK_n, seqK_r, andK_t, andK_f, orK_f, orK_t, iteK_t, iteK_f, asgK_nm, asgK_t2, asgK_t3, endF_n, endF_r, slI_i, toBl_b, vw_i, vw_b, vw_t, vw_tI, vw_tT, vw_l, vw_s, vw_n, vw_ty, src_t, src_tI, src_tT, src_l, bin_add, bin_sub, neg_i, not_b, R.bind_assoc, e_lst]
          refine Wp.bind ((r_draw h (lim := 2) (by omega) (by omega) ht6).mono fun d S7 hd => ?_)
          obtain ⟨q2, rfl, q20, q21, ht7⟩ := hd
          simp only [e_var, e_cst, e_ty, e_gfn, e_bin, e_cmp, e_chn, e_neg, e_nt, e_one, e_and, e_or, e_ite, e_tup, e_lst, e_idx, e_slc, o_none, o_some, e_call, e_blt, e_isi, a_nil, a_cons, i_of, i_rng, c_none, c_some, s_set, s_setLc, s_asg, s_par, s_stI, s_ex, s_ret, s_if, s_rai, s_pass, b_nil, b_cons, M.opt_some, R.bind_ok, getE_0, getE_s, List.map_cons, List.map_nil, List.cons_append, List.nil_append, List.length_cons, List.length_nil, List.replicate_succ, List.replicate_zero, Nat.reduceSub, Nat.reduceAdd, List.set_cons_zero, List.set_cons_succ, Option.map_some, BT.nm, wipeE, seqK_n, seqK_r, andK_t, andK_f, orK_f, orK_t, iteK_t, iteK_f, asgK_nm, asgK_t2, asgK_t3, endF_n, endF_r, slI_i, toBl_b, vw_i, vw_b, vw_t, vw_tI, vw_tT, vw_l, vw_s, vw_n, vw_ty, src_t, src_tI, src_tT, src_l, bin_add, bin_sub, neg_i, not_b, R.bind_assoc, e_lst]
          rw [bin_mod (by omega)]
          simp only [e_var, e_cst, e_ty, e_gfn, e_bin, e_cmp, e_chn, e_neg, e_nt, e_one, e_and, e_or, e_ite, e_tup, e_lst, e_idx, e_slc, o_none, o_some, e_call, e_blt, e_isi, a_nil, a_cons, i_of, i_rng, c_none, c_some, s_set, s_setLc, s_asg, s_par, s_stI, s_ex, s_ret, s_if, s_rai, s_pass, b_nil, b_cons, M.opt_some, R.bind_ok, getE_0, getE_s, List.map_cons, List.map_nil, List.cons_append, List.nil_append, List.length_cons, List.length_nil, List.replicate_succ, List.replicate_zero, Nat.reduceSub, Nat.reduceAdd, List.set_cons_zero, List.set_cons_succ, Option.map_some, BT.nm, wipeE, seqK_n, seqK_r, andK_t, andK_f, orK_f, orK_t, iteK_t, iteK_f, asgK_nm, asgK_t2, asgK_t3, endF_n, endF_r, slI_i, toBl_b, vw_i, vw_b, vw_t, vw_tI, vw_tT, vw_l, vw_s, vw_n, vw_ty, src_t, src_tI, src_tT, src_l, bin_add, bin_sub, neg_i, not_b, R.bind_assoc, e_lst]
          have r1 := fmod_rng (a := q + 1 + q2) (b := 1 + v) (by omega)
          have hne : q ≠ (q + 1 + q2).fmod (1 + v) := by
            rw [Int.fmod_eq_emod_of_nonneg _ (by omega)]
            have hv : v = 2 ∨ v = 3 ∨ v = 4 ∨ v = 5 ∨ v = 6 := by omega
            clear r1 e
            rcases hv with rfl | rfl | rfl | rfl | rfl
            · show q ≠ (q + 1 + q2) % 3
              omega
            · show q ≠ (q + 1 + q2) % 4
              omega
            · show q ≠ (q + 1 + q2) % 5
              omega
            · show q ≠ (q + 1 + q2) % 6
              omega
            · show q ≠ (q + 1 + q2) % 7
              omega
          obtain ⟨ys, e1, e2, e3⟩ := sortD_int [q, (q + 1 + q2).fmod (1 + v)]
          have e4 := sorted_l (S := S7) (sortOk_int [q, (q + 1 + q2).fmod (1 + v)])
          simp only [List.map_cons, List.map_nil] at e1 e4
          rw [e4, e1]
          simp only [e_var, e_cst, e_ty, e_gfn, e_bin, e_cmp, e_chn, e_neg, e_nt, e_one, e_and, e_or, e_ite, e_tup, e_lst, e_idx, e_slc, o_none, o_some, e_call, e_blt, e_isi, a_nil, a_cons, i_of, i_rng, c_none, c_some, s_set, s_setLc, s_asg, s_par, s_stI, s_ex, s_ret, s_if, s_rai, s_pass, b_nil, b_cons, M.opt_some, R.bind_ok, getE_0, getE_s, List.map_cons, List.map_nil, List.cons_append, List.nil_append, List.length_cons, List.length_nil, List.replicate_succ, List.replicate_zero, Nat.reduceSub, Nat.reduceAdd, List.set_cons_zero, List.set_cons_succ, Option.map_some, BT.nm, wipeE, seqK_n, seqK_r, andK_t, andK_f, orK_f, orK_t, iteK_t, iteK_f, asgK_nm, asgK_t2, asgK_t3, endF_n, endF_r, slI_i, toBl_b, vw_i, vw_b, vw_t, vw_tI, vw_tT, vw_l, vw_s, vw_n, vw_ty, src_t, src_tI, src_tT, src_l, bin_add, bin_sub, neg_i, not_b, R.bind_assoc]
          exact ⟨_, ys, rfl, fun _ => inc_all hne (by omega) (by omega) e2 e3, ht7.mono (by omega)⟩
        | false =>
          simp only [e_var, e_cst, e_ty, e_gfn, e_bin, e_cmp, e_chn, e_neg, e_nt, e_one, e_and, e_or, e_ite, e_tup, e_lst, e_idx, e_slc, o_none, o_some, e_call, e_blt, e_isi, a_nil, a_cons, i_of, i_rng, c_none, c_some, s_set, s_setLc, s_asg, s_par, s_stI, s_ex, s_ret, s_if, s_rai, s_pass, b_nil, b_cons, M.opt_some, R.bind_ok, getE_0, getE_s, List.map_cons, List.map_nil, List.cons_append, List.nil_append, List.length_cons, List.length_nil, List.replicate_succ, List.replicate_zero, Nat.reduceSub, Nat.reduceAdd, List.set_cons_zero, List.set_cons_succ, Option.map_some, BT.nm, wipeE, seqK_n, seqK_r, andK_t, andK_f, orK_f, orK_t, iteK_t, iteK_f, asgK_nm, asgK_t2, asgK_t3, endF_n, endF_r, slI_i, toBl_b, vw_i, vw_b, vw_t, vw_tI, vw_tT, vw_l, vw_s, vw_n, vw_ty, src_t, src_tI, src_tT, src_l, bin_add, bin_sub, neg_i, not_b, R.bind_assoc, e_lst]
          have hl := lcE_wp (cf := runF fs (k + 1)) (vs := [8]) (tg := .nm 8) (S := S') (S1 := S') (ρ := [some (lI ns), some (.cell 0), some (.int most), some (.int (1 + v)), some (.lst (found.map tI)), some (.int (1 + o)), some (.bl false), some d, t2, t3]) (s := .rng (.cons (.var 3) .nil))
            (c := .some (.cmp .Lt (.call "_law_draw" (.cons (.var 0) (.cons (.var 1) (.cons (.cst (.int 4)) .nil)))) (.var 5))) (e := .var 8) (xs := (List.range (1 + v).toNat).map fun i : Nat => D.int (i : Int)) (by
              simp only [e_var, e_cst, e_ty, e_gfn, e_bin, e_cmp, e_chn, e_neg, e_nt, e_one, e_and, e_or, e_ite, e_tup, e_lst, e_idx, e_slc, o_none, o_some, e_call, e_blt, e_isi, a_nil, a_cons, i_of, i_rng, c_none, c_some, s_set, s_setLc, s_asg, s_par, s_stI, s_ex, s_ret, s_if, s_rai, s_pass, b_nil, b_cons, M.opt_some, R.bind_ok, getE_0, getE_s, List.map_cons, List.map_nil, List.cons_append, List.nil_append, List.length_cons, List.length_nil, List.replicate_succ, List.replicate_zero, Nat.reduceSub, Nat.reduceAdd, List.set_cons_zero, List.set_cons_succ, Option.map_some, BT.nm, wipeE, seqK_n, seqK_r, andK_t, andK_f, orK_f, orK_t, iteK_t, iteK_f, asgK_nm, asgK_t2, asgK_t3, endF_n, endF_r, slI_i, toBl_b, vw_i, vw_b, vw_t, vw_tI, vw_tT, vw_l, vw_s, vw_n, vw_ty, src_t, src_tI, src_tT, src_l, bin_add, bin_sub, neg_i, not_b, R.bind_assoc]
              rw [rng_1 (by omega), rangeD_n]
              simp only [e_var, e_cst, e_ty, e_gfn, e_bin, e_cmp, e_chn, e_neg, e_nt, e_one, e_and, e_or, e_ite, e_tup, e_lst, e_idx, e_slc, o_none, o_some, e_call, e_blt, e_isi, a_nil, a_cons, i_of, i_rng, c_none, c_some, s_set, s_setLc, s_asg, s_par, s_stI, s_ex, s_ret, s_if, s_rai, s_pass, b_nil, b_cons, M.opt_some, R.bind_ok, getE_0, getE_s, List.map_cons, List.map_nil, List.cons_append, List.nil_append, List.length_cons, List.length_nil, List.replicate_succ, List.replicate_zero, Nat.reduceSub, Nat.reduceAdd, List.set_cons_zero, List.set_cons_succ, Option.map_some, BT.nm, wipeE, seqK_n, seqK_r, andK_t, andK_f, orK_f, orK_t, iteK_t, iteK_f, asgK_nm, asgK_t2, asgK_t3, endF_n, endF_r, slI_i, toBl_b, vw_i, vw_b, vw_t, vw_tI, vw_tT, vw_l, vw_s, vw_n, vw_ty, src_t, src_tI, src_tT, src_l, bin_add, bin_sub, neg_i, not_b, R.bind_assoc]) (fun j acc S'' => ∃ ys : List Int, acc = ys.map D.int ∧ ys.Pairwise (· < ·) ∧ (∀ y ∈ ys, 0 ≤ y ∧ y < j) ∧ Tn ns T (b + 4 + 10 * i + j) S'') ⟨[], rfl, by simp, by simp, ht5⟩ (fun j d2 acc S'' hx2 hI2 => by
              obtain ⟨ys, rfl, y1, y2, ht6⟩ := hI2
              have hj : j < (1 + v).toNat := by
                have := (List.getElem?_eq_some_iff.mp hx2).1
                simpa using this
              have hd2 : d2 = .int (j : Int) := by
                rw [List.getElem?_map, List.getElem?_range hj] at hx2
                cases hx2
                rfl
              subst hd2
              refine ⟨_, rfl, ?_⟩
              simp only [e_var, e_cst, e_ty, e_gfn, e_bin, e_cmp, e_chn, e_neg, e_nt, e_one, e_and, e_or, e_ite, e_tup, e_lst, e_idx, e_slc, o_none, o_some, e_call, e_blt, e_isi, a_nil, a_cons, i_of, i_rng, c_none, c_some, s_set, s_setLc, s_asg, s_par, s_stI, s_ex, s_ret, s_if, s_rai, s_pass, b_nil, b_cons, M.opt_some, R.bind_ok, getE_0, getE_s, List.map_cons, List.map_nil, List.cons_append, List.nil_append, List.length_cons, List.length_nil, List.replicate_succ, List.replicate_zero, Nat.reduceSub, Nat.reduceAdd, List.set_cons_zero, List.set_cons_succ, Option.map_some, BT.nm, wipeE, seqK_n, seqK_r, andK_t, andK_f, orK_f, orK_t, iteK_t, iteK_f, asgK_nm, asgK_t2, asgK_t3, endF_n, endF_r, slI_i, toBl_b, vw_i, vw_b, vw_t, vw_tI, vw_tT, vw_l, vw_s, vw_n, vw_ty, src_t, src_tI, src_tT, src_l, bin_add, bin_sub, neg_i, not_b, R.bind_assoc]
              refine Wp.bind ((r_draw h (lim := 4) (by omega) (by omega) ht6).mono fun d3 S7 hd => ?_)
              obtain ⟨q, rfl, q0, q1, ht7⟩ := hd
              simp only [e_var, e_cst, e_ty, e_gfn, e_bin, e_cmp, e_chn, e_neg, e_nt, e_one, e_and, e_or, e_ite, e_tup, e_lst, e_idx, e_slc, o_none, o_some, e_call, e_blt, e_isi, a_nil, a_cons, i_of, i_rng, c_none, c_some, s_set, s_setLc, s_asg, s_par, s_stI, s_ex, s_ret, s_if, s_rai, s_pass, b_nil, b_cons, M.opt_some, R.bind_ok, getE_0, getE_s, List.map_cons, List.map_nil, List.cons_append, List.nil_append, List.length_cons, List.length_nil, List.replicate_succ, List.replicate_zero, Nat.reduceSub, Nat.reduceAdd, List.set_cons_zero, List.set_cons_succ, Option.map_some, BT.nm, wipeE, seqK_n, seqK_r, andK_t, andK_f, orK_f, orK_t, iteK_t, iteK_f, asgK_nm, asgK_t2, asgK_t3, endF_n, endF_r, slI_i, toBl_b, vw_i, vw_b, vw_t, vw_tI, vw_tT, vw_l, vw_s, vw_n, vw_ty, src_t, src_tI, src_tT, src_l, bin_add, bin_sub, neg_i, not_b, R.bind_assoc, cmp_lt]
              refine Wp.ok ?_
              by_cases hq : q < 1 + o
              · rw [if_pos (decide_eq_true hq)]
                refine Wp.ok ⟨ys ++ [(j : Int)], by simp, ?_, fun y hy => ?_, ht7.mono (by omega)⟩
                · rw [List.pairwise_append]
                  refine ⟨y1, by simp, fun a ha b hb => ?_⟩
                  simp at hb
                  subst hb
                  exact (y2 a ha).2
                · rcases List.mem_append.mp hy with hy | hy
                  · have := y2 y hy
                    omega
                  · simp at hy
                    omega
              · rw [if_neg (by simpa using hq)]
                exact ⟨ys, rfl, y1, fun y hy => by
                  have := y2 y hy
                  omega, ht7.mono (by omega)⟩)
          refine Wp.bind (hl.mono fun dd S8 hh => ?_)
          obtain ⟨zs, rfl, ys, rfl, y1, y2, ht8⟩ := hh
          rw [List.length_map, List.length_range] at y2 ht8
          exact ⟨_, ys, rfl, fun hne => ⟨hne, fun x hx => by
            have := y2 x hx
            omega, y1⟩, ht8.mono (by omega)⟩
      rw [b_cons]
      refine Wp.bind ((first _ rfl).mono fun f S8 hf => ?_)
      obtain ⟨t, ys, rfl, hys, ht8⟩ := hf
      have fin : ∀ (one : List Int) (S9 : Store), lotOk (1 + v) one → Tn ns T (b + 4 + 10 * i + 9) S9 → Wp (exS (runF fs (k + 1)) (.set 4 (.bin .Add (.var 4) (.ite (.cmp .NotIn (.var 9) (.var 4)) (.lst (.cons (.var 9) .nil)) (.lst .nil)))) [some (lI ns), some (.cell 0), some (.int most), some (.int (1 + v)), some (.lst (found.map tI)), some (.int (1 + o)), some (.bl p), some d, t, some (tI one)] S9)
          (fun f S'' => ∃ found t1 t2 t3, f = .nx [some (lI ns), some (.cell 0), some (.int most), some (.int (1 + v)), some (.lst (found.map tI)), some (.int (1 + o)), some (.bl p), t1, t2, t3] ∧ Tn ns T (b + 4 + 10 * (i + 1)) S'' ∧ (∀ s ∈ found, lotOk (1 + v) s) ∧ found.Nodup ∧ found.length ≤ i + 1 ∧ (0 < i + 1 → found ≠ [])) := by
        intro one S9 ho ht9
        simp only [e_var, e_cst, e_ty, e_gfn, e_bin, e_cmp, e_chn, e_neg, e_nt, e_one, e_and, e_or, e_ite, e_tup, e_lst, e_idx, e_slc, o_none, o_some, e_call, e_blt, e_isi, a_nil, a_cons, i_of, i_rng, c_none, c_some, s_set, s_setLc, s_asg, s_par, s_stI, s_ex, s_ret, s_if, s_rai, s_pass, b_nil, b_cons, M.opt_some, R.bind_ok, getE_0, getE_s, List.map_cons, List.map_nil, List.cons_append, List.nil_append, List.length_cons, List.length_nil, List.replicate_succ, List.replicate_zero, Nat.reduceSub, Nat.reduceAdd, List.set_cons_zero, List.set_cons_succ, Option.map_some, BT.nm, wipeE, seqK_n, seqK_r, andK_t, andK_f, orK_f, orK_t, iteK_t, iteK_f, asgK_nm, asgK_t2, asgK_t3, endF_n, endF_r, slI_i, toBl_b, vw_i, vw_b, vw_t, vw_tI, vw_tT, vw_l, vw_s, vw_n, vw_ty, src_t, src_tI, src_tT, src_l, bin_add, bin_sub, neg_i, not_b, R.bind_assoc, e_lst, cni_lT]
        by_cases hin : one ∈ found
        · simp only [decide_eq_true hin, Bool.not_true, e_var, e_cst, e_ty, e_gfn, e_bin, e_cmp, e_chn, e_neg, e_nt, e_one, e_and, e_or, e_ite, e_tup, e_lst, e_idx, e_slc, o_none, o_some, e_call, e_blt, e_isi, a_nil, a_cons, i_of, i_rng, c_none, c_some, s_set, s_setLc, s_asg, s_par, s_stI, s_ex, s_ret, s_if, s_rai, s_pass, b_nil, b_cons, M.opt_some, R.bind_ok, getE_0, getE_s, List.map_cons, List.map_nil, List.cons_append, List.nil_append, List.length_cons, List.length_nil, List.replicate_succ, List.replicate_zero, Nat.reduceSub, Nat.reduceAdd, List.set_cons_zero, List.set_cons_succ, Option.map_some, BT.nm, wipeE, seqK_n, seqK_r, andK_t, andK_f, orK_f, orK_t, iteK_t, iteK_f, asgK_nm, asgK_t2, asgK_t3, endF_n, endF_r, slI_i, toBl_b, vw_i, vw_b, vw_t, vw_tI, vw_tT, vw_l, vw_s, vw_n, vw_ty, src_t, src_tI, src_tT, src_l, bin_add, bin_sub, neg_i, not_b, R.bind_assoc, e_lst]
          rw [bin_addL (by
            rw [List.length_map]
            show found.length + 0 ≤ 16777216
            omega)]
          simp only [e_var, e_cst, e_ty, e_gfn, e_bin, e_cmp, e_chn, e_neg, e_nt, e_one, e_and, e_or, e_ite, e_tup, e_lst, e_idx, e_slc, o_none, o_some, e_call, e_blt, e_isi, a_nil, a_cons, i_of, i_rng, c_none, c_some, s_set, s_setLc, s_asg, s_par, s_stI, s_ex, s_ret, s_if, s_rai, s_pass, b_nil, b_cons, M.opt_some, R.bind_ok, getE_0, getE_s, List.map_cons, List.map_nil, List.cons_append, List.nil_append, List.length_cons, List.length_nil, List.replicate_succ, List.replicate_zero, Nat.reduceSub, Nat.reduceAdd, List.set_cons_zero, List.set_cons_succ, Option.map_some, BT.nm, wipeE, seqK_n, seqK_r, andK_t, andK_f, orK_f, orK_t, iteK_t, iteK_f, asgK_nm, asgK_t2, asgK_t3, endF_n, endF_r, slI_i, toBl_b, vw_i, vw_b, vw_t, vw_tI, vw_tT, vw_l, vw_s, vw_n, vw_ty, src_t, src_tI, src_tT, src_l, bin_add, bin_sub, neg_i, not_b, R.bind_assoc, List.append_nil]
          exact ⟨found, _, _, _, rfl, ht9.mono (by omega), g1, g2, by omega, fun _ z => by rw [z] at hin; cases hin⟩
        · simp only [decide_eq_false hin, Bool.not_false, e_var, e_cst, e_ty, e_gfn, e_bin, e_cmp, e_chn, e_neg, e_nt, e_one, e_and, e_or, e_ite, e_tup, e_lst, e_idx, e_slc, o_none, o_some, e_call, e_blt, e_isi, a_nil, a_cons, i_of, i_rng, c_none, c_some, s_set, s_setLc, s_asg, s_par, s_stI, s_ex, s_ret, s_if, s_rai, s_pass, b_nil, b_cons, M.opt_some, R.bind_ok, getE_0, getE_s, List.map_cons, List.map_nil, List.cons_append, List.nil_append, List.length_cons, List.length_nil, List.replicate_succ, List.replicate_zero, Nat.reduceSub, Nat.reduceAdd, List.set_cons_zero, List.set_cons_succ, Option.map_some, BT.nm, wipeE, seqK_n, seqK_r, andK_t, andK_f, orK_f, orK_t, iteK_t, iteK_f, asgK_nm, asgK_t2, asgK_t3, endF_n, endF_r, slI_i, toBl_b, vw_i, vw_b, vw_t, vw_tI, vw_tT, vw_l, vw_s, vw_n, vw_ty, src_t, src_tI, src_tT, src_l, bin_add, bin_sub, neg_i, not_b, R.bind_assoc, e_lst]
          rw [bin_addL (by
            rw [List.length_map]
            show found.length + 1 ≤ 16777216
            omega)]
          simp only [e_var, e_cst, e_ty, e_gfn, e_bin, e_cmp, e_chn, e_neg, e_nt, e_one, e_and, e_or, e_ite, e_tup, e_lst, e_idx, e_slc, o_none, o_some, e_call, e_blt, e_isi, a_nil, a_cons, i_of, i_rng, c_none, c_some, s_set, s_setLc, s_asg, s_par, s_stI, s_ex, s_ret, s_if, s_rai, s_pass, b_nil, b_cons, M.opt_some, R.bind_ok, getE_0, getE_s, List.map_cons, List.map_nil, List.cons_append, List.nil_append, List.length_cons, List.length_nil, List.replicate_succ, List.replicate_zero, Nat.reduceSub, Nat.reduceAdd, List.set_cons_zero, List.set_cons_succ, Option.map_some, BT.nm, wipeE, seqK_n, seqK_r, andK_t, andK_f, orK_f, orK_t, iteK_t, iteK_f, asgK_nm, asgK_t2, asgK_t3, endF_n, endF_r, slI_i, toBl_b, vw_i, vw_b, vw_t, vw_tI, vw_tT, vw_l, vw_s, vw_n, vw_ty, src_t, src_tI, src_tT, src_l, bin_add, bin_sub, neg_i, not_b, R.bind_assoc]
          have e9 : found.map tI ++ [tI one] = (found ++ [one]).map tI := by simp
          rw [e9]
          refine ⟨found ++ [one], _, _, _, rfl, ht9.mono (by omega), fun s hs => ?_, ?_, by simp; omega, by simp⟩
          · rcases List.mem_append.mp hs with hs | hs
            · exact g1 s hs
            · simp at hs
              subst hs
              exact ho
          · rw [List.nodup_append]
            refine ⟨g2, by simp, fun a ha b hb => ?_⟩
            simp at hb
            subst hb
            rintro rfl
            exact hin ha
      have snd : Wp (exS (runF fs (k + 1)) (.set 9 (.blt .tuple (.cons (.ite (.cmp .NotEq (.var 9) (.lst .nil)) (.var 9) (.lst (.cons (.call "_law_draw" (.cons (.var 0) (.cons (.var 1) (.cons (.var 3) .nil)))) .nil))) .nil))) [some (lI ns), some (.cell 0), some (.int most), some (.int (1 + v)), some (.lst (found.map tI)), some (.int (1 + o)), some (.bl p), some d, t, some (.lst (ys.map D.int))] S8)
          (fun f S9 => ∃ one, f = .nx [some (lI ns), some (.cell 0), some (.int most), some (.int (1 + v)), some (.lst (found.map tI)), some (.int (1 + o)), some (.bl p), some d, t, some (tI one)] ∧ lotOk (1 + v) one ∧ Tn ns T (b + 4 + 10 * i + 9) S9) := by
        by_cases hy : ys = []
        · have hy0 : decide (ys = []) = true := decide_eq_true hy
          simp only [e_var, e_cst, e_ty, e_gfn, e_bin, e_cmp, e_chn, e_neg, e_nt, e_one, e_and, e_or, e_ite, e_tup, e_lst, e_idx, e_slc, o_none, o_some, e_call, e_blt, e_isi, a_nil, a_cons, i_of, i_rng, c_none, c_some, s_set, s_setLc, s_asg, s_par, s_stI, s_ex, s_ret, s_if, s_rai, s_pass, b_nil, b_cons, M.opt_some, R.bind_ok, getE_0, getE_s, List.map_cons, List.map_nil, List.cons_append, List.nil_append, List.length_cons, List.length_nil, List.replicate_succ, List.replicate_zero, Nat.reduceSub, Nat.reduceAdd, List.set_cons_zero, List.set_cons_succ, Option.map_some, BT.nm, wipeE, seqK_n, seqK_r, andK_t, andK_f, orK_f, orK_t, iteK_t, iteK_f, asgK_nm, asgK_t2, asgK_t3, endF_n, endF_r, slI_i, toBl_b, vw_i, vw_b, vw_t, vw_tI, vw_tT, vw_l, vw_s, vw_n, vw_ty, src_t, src_tI, src_tT, src_l, bin_add, bin_sub, neg_i, not_b, R.bind_assoc, e_lst, cne_l0, hy0, Bool.not_true]
          refine Wp.bind ((r_draw h (lim := 1 + v) (by omega) (by omega) ht8).mono fun d9 S9 hd => ?_)
          obtain ⟨q, rfl, q0, q1, ht9⟩ := hd
          simp only [tup_l, e_var, e_cst, e_ty, e_gfn, e_bin, e_cmp, e_chn, e_neg, e_nt, e_one, e_and, e_or, e_ite, e_tup, e_lst, e_idx, e_slc, o_none, o_some, e_call, e_blt, e_isi, a_nil, a_cons, i_of, i_rng, c_none, c_some, s_set, s_setLc, s_asg, s_par, s_stI, s_ex, s_ret, s_if, s_rai, s_pass, b_nil, b_cons, M.opt_some, R.bind_ok, getE_0, getE_s, List.map_cons, List.map_nil, List.cons_append, List.nil_append, List.length_cons, List.length_nil, List.replicate_succ, List.replicate_zero, Nat.reduceSub, Nat.reduceAdd, List.set_cons_zero, List.set_cons_succ, Option.map_some, BT.nm, wipeE, seqK_n, seqK_r, andK_t, andK_f, orK_f, orK_t, iteK_t, iteK_f, asgK_nm, asgK_t2, asgK_t3, endF_n, endF_r, slI_i, toBl_b, vw_i, vw_b, vw_t, vw_tI, vw_tT, vw_l, vw_s, vw_n, vw_ty, src_t, src_tI, src_tT, src_l, bin_add, bin_sub, neg_i, not_b, R.bind_assoc]
          exact ⟨[q], rfl, ⟨by simp, by simp; omega, by simp⟩, ht9⟩
        · have hy0 : decide (ys = []) = false := decide_eq_false hy
          simp only [e_var, e_cst, e_ty, e_gfn, e_bin, e_cmp, e_chn, e_neg, e_nt, e_one, e_and, e_or, e_ite, e_tup, e_lst, e_idx, e_slc, o_none, o_some, e_call, e_blt, e_isi, a_nil, a_cons, i_of, i_rng, c_none, c_some, s_set, s_setLc, s_asg, s_par, s_stI, s_ex, s_ret, s_if, s_rai, s_pass, b_nil, b_cons, M.opt_some, R.bind_ok, getE_0, getE_s, List.map_cons, List.map_nil, List.cons_append, List.nil_append, List.length_cons, List.length_nil, List.replicate_succ, List.replicate_zero, Nat.reduceSub, Nat.reduceAdd, List.set_cons_zero, List.set_cons_succ, Option.map_some, BT.nm, wipeE, seqK_n, seqK_r, andK_t, andK_f, orK_f, orK_t, iteK_t, iteK_f, asgK_nm, asgK_t2, asgK_t3, endF_n, endF_r, slI_i, toBl_b, vw_i, vw_b, vw_t, vw_tI, vw_tT, vw_l, vw_s, vw_n, vw_ty, src_t, src_tI, src_tT, src_l, bin_add, bin_sub, neg_i, not_b, R.bind_assoc, e_lst, cne_l0, hy0, Bool.not_false, tup_l]
          exact ⟨ys, rfl, hys hy, ht8.mono (by omega)⟩
      simp only [seqK_n]
      rw [b_cons]
      refine Wp.bind (snd.mono fun f S9 hf => ?_)
      obtain ⟨one, rfl, ho, ht9⟩ := hf
      simp only [seqK_n]
      rw [b_cons]
      refine Wp.bind ((fin one S9 ho ht9).mono fun f S10 hf => ?_)
      obtain ⟨found', u1, u2, u3, rfl, g⟩ := hf
      simp only [seqK_n, b_nil]
      exact ⟨found', u1, u2, u3, rfl, g⟩
    · rw [List.length_map, List.length_range] at hI
      obtain ⟨found, t1, t2, t3, rfl, ht5, g1, g2, g3, g4⟩ := hI
      exact ⟨found, t1, t2, t3, rfl, ht5.mono (by omega), g1, g2, by omega, g4 (by omega)⟩
  have mid : Wp (andK (.bl (decide (2 < 1 + v))) (fun S1 => (runF fs (k + 1) "_law_draw" [lI ns, .cell 0, .int 2] S1).bind fun x S1 => M.opt (cmpB CmpOp.Eq (vw S1 x) (.int 0)) S1) S2) (fun d S3 => ∃ p : Bool, d = .bl p ∧ (p = true → 2 < 1 + v) ∧ Tn ns T (b + 3) S3) := by
    by_cases h2 : 2 < 1 + v
    · simp only [decide_eq_true h2, andK_t]
      refine Wp.bind ((r_draw h (lim := 2) (by omega) (by omega) ht2).mono fun d S3 hd => ?_)
      obtain ⟨q, rfl, q0, q1, ht3⟩ := hd
      simp only [e_var, e_cst, e_ty, e_gfn, e_bin, e_cmp, e_chn, e_neg, e_nt, e_one, e_and, e_or, e_ite, e_tup, e_lst, e_idx, e_slc, o_none, o_some, e_call, e_blt, e_isi, a_nil, a_cons, i_of, i_rng, c_none, c_some, s_set, s_setLc, s_asg, s_par, s_stI, s_ex, s_ret, s_if, s_rai, s_pass, b_nil, b_cons, M.opt_some, R.bind_ok, getE_0, getE_s, List.map_cons, List.map_nil, List.cons_append, List.nil_append, List.length_cons, List.length_nil, List.replicate_succ, List.replicate_zero, Nat.reduceSub, Nat.reduceAdd, List.set_cons_zero, List.set_cons_succ, Option.map_some, BT.nm, wipeE, seqK_n, seqK_r, andK_t, andK_f, orK_f, orK_t, iteK_t, iteK_f, asgK_nm, asgK_t2, asgK_t3, endF_n, endF_r, slI_i, toBl_b, vw_i, vw_b, vw_t, vw_tI, vw_tT, vw_l, vw_s, vw_n, vw_ty, src_t, src_tI, src_tT, src_l, bin_add, bin_sub, neg_i, not_b, R.bind_assoc, ceq_i]
      exact ⟨_, rfl, fun _ => h2, ht3⟩
    · simp only [decide_eq_false h2, andK_f]
      exact ⟨_, rfl, fun z => (by cases z), ht2.mono (by omega)⟩
  refine Wp.bind (mid.mono fun d S3 hd => ?_)
  obtain ⟨p, rfl, hp, ht3⟩ := hd
  refine Wp.bind ((key p S3 hp ht3).mono fun f S4 hf => ?_)
  obtain ⟨found, t1, t2, t3, rfl, ht4, g1, g2, g3, g4⟩ := hf
  obtain ⟨ys, e1, e2, e3⟩ := sortD_tI found
  simp only [e_var, e_cst, e_ty, e_gfn, e_bin, e_cmp, e_chn, e_neg, e_nt, e_one, e_and, e_or, e_ite, e_tup, e_lst, e_idx, e_slc, o_none, o_some, e_call, e_blt, e_isi, a_nil, a_cons, i_of, i_rng, c_none, c_some, s_set, s_setLc, s_asg, s_par, s_stI, s_ex, s_ret, s_if, s_rai, s_pass, b_nil, b_cons, M.opt_some, R.bind_ok, getE_0, getE_s, List.map_cons, List.map_nil, List.cons_append, List.nil_append, List.length_cons, List.length_nil, List.replicate_succ, List.replicate_zero, Nat.reduceSub, Nat.reduceAdd, List.set_cons_zero, List.set_cons_succ, Option.map_some, BT.nm, wipeE, seqK_n, seqK_r, andK_t, andK_f, orK_f, orK_t, iteK_t, iteK_f, asgK_nm, asgK_t2, asgK_t3, endF_n, endF_r, slI_i, toBl_b, vw_i, vw_b, vw_t, vw_tI, vw_tT, vw_l, vw_s, vw_n, vw_ty, src_t, src_tI, src_tT, src_l, bin_add, bin_sub, neg_i, not_b, R.bind_assoc]
  rw [sorted_l (sortOk_tI found fun x hx => (g1 x hx).1), e1]
  simp only [e_var, e_cst, e_ty, e_gfn, e_bin, e_cmp, e_chn, e_neg, e_nt, e_one, e_and, e_or, e_ite, e_tup, e_lst, e_idx, e_slc, o_none, o_some, e_call, e_blt, e_isi, a_nil, a_cons, i_of, i_rng, c_none, c_some, s_set, s_setLc, s_asg, s_par, s_stI, s_ex, s_ret, s_if, s_rai, s_pass, b_nil, b_cons, M.opt_some, R.bind_ok, getE_0, getE_s, List.map_cons, List.map_nil, List.cons_append, List.nil_append, List.length_cons, List.length_nil, List.replicate_succ, List.replicate_zero, Nat.reduceSub, Nat.reduceAdd, List.set_cons_zero, List.set_cons_succ, Option.map_some, BT.nm, wipeE, seqK_n, seqK_r, andK_t, andK_f, orK_f, orK_t, iteK_t, iteK_f, asgK_nm, asgK_t2, asgK_t3, endF_n, endF_r, slI_i, toBl_b, vw_i, vw_b, vw_t, vw_tI, vw_tT, vw_l, vw_s, vw_n, vw_ty, src_t, src_tI, src_tT, src_l, bin_add, bin_sub, neg_i, not_b, R.bind_assoc, tup_l]
  refine ⟨1 + v, ys, rfl, by omega, ⟨by omega, by omega, fun z => ?_, ?_, fun s hs => g1 s (e2.mem_iff.mp hs), ?_⟩, ht4⟩
  · subst z
    exact g4 (List.length_eq_zero_iff.mp e2.length_eq.symm)
  · rw [e2.length_eq]; exact g3
  · have hd : ys.Nodup := e2.nodup_iff.mpr g2
    refine e3.imp₂ (fun x y h1 h2 => ?_) hd
    cases hq : HT.lexLt x y with
    | true => rfl
    | false => exact absurd (lexLt_tri x y hq h1) h2
/-- draws colours -/
theorem r_hues (h : DrawOk fs) (h' : fs "_law_hues" = some ⟨3, 4, b__law_hues⟩) {n : Int} (hn : 1 ≤ n ∧ n ≤ 7) (hb : b ≤ 900000) (ht : Tn ns T b S) :
    Wp (runF fs (k + 2) "_law_hues" [lI ns, .cell 0, .int n] S) (fun d S' => ∃ c, d = tI c ∧ hueOk n c ∧ Tn ns T (b + 7) S') := by
  rw [rf_eq h']
  simp only [b__law_hues, e_var, e_cst, e_ty, e_gfn, e_bin, e_cmp, e_chn, e_neg, e_nt, e_one, e_and, e_or, e_ite, e_tup, e_lst, e_idx, e_slc, o_none, o_some, e_call, e_blt, e_isi, a_nil, a_cons, i_of, i_rng, c_none, c_some, s_set, s_setLc, s_asg, s_par, s_stI, s_ex, s_ret, s_if, s_rai, s_pass, b_nil, b_cons, M.opt_some, R.bind_ok, getE_0, getE_s, List.map_cons, List.map_nil, List.cons_append, List.nil_append, List.length_cons, List.length_nil, List.replicate_succ, List.replicate_zero, Nat.reduceSub, Nat.reduceAdd, List.set_cons_zero, List.set_cons_succ, Option.map_some, BT.nm, wipeE, seqK_n, seqK_r, andK_t, andK_f, orK_f, orK_t, iteK_t, iteK_f, asgK_nm, asgK_t2, asgK_t3, endF_n, endF_r, slI_i, toBl_b, vw_i, vw_b, vw_t, vw_tI, vw_tT, vw_l, vw_s, vw_n, vw_ty, src_t, src_tI, src_tT, src_l, bin_add, bin_sub, neg_i, not_b, R.bind_assoc]
  refine Wp.bind ((lcE_wp (xs := (List.range n.toNat).map fun i : Nat => D.int (i : Int)) (S1 := S) (by
    simp only [e_var, e_cst, e_ty, e_gfn, e_bin, e_cmp, e_chn, e_neg, e_nt, e_one, e_and, e_or, e_ite, e_tup, e_lst, e_idx, e_slc, o_none, o_some, e_call, e_blt, e_isi, a_nil, a_cons, i_of, i_rng, c_none, c_some, s_set, s_setLc, s_asg, s_par, s_stI, s_ex, s_ret, s_if, s_rai, s_pass, b_nil, b_cons, M.opt_some, R.bind_ok, getE_0, getE_s, List.map_cons, List.map_nil, List.cons_append, List.nil_append, List.length_cons, List.length_nil, List.replicate_succ, List.replicate_zero, Nat.reduceSub, Nat.reduceAdd, List.set_cons_zero, List.set_cons_succ, Option.map_some, BT.nm, wipeE, seqK_n, seqK_r, andK_t, andK_f, orK_f, orK_t, iteK_t, iteK_f, asgK_nm, asgK_t2, asgK_t3, endF_n, endF_r, slI_i, toBl_b, vw_i, vw_b, vw_t, vw_tI, vw_tT, vw_l, vw_s, vw_n, vw_ty, src_t, src_tI, src_tT, src_l, bin_add, bin_sub, neg_i, not_b, R.bind_assoc]
    rw [rng_1 (by omega), rangeD_n]
    simp only [e_var, e_cst, e_ty, e_gfn, e_bin, e_cmp, e_chn, e_neg, e_nt, e_one, e_and, e_or, e_ite, e_tup, e_lst, e_idx, e_slc, o_none, o_some, e_call, e_blt, e_isi, a_nil, a_cons, i_of, i_rng, c_none, c_some, s_set, s_setLc, s_asg, s_par, s_stI, s_ex, s_ret, s_if, s_rai, s_pass, b_nil, b_cons, M.opt_some, R.bind_ok, getE_0, getE_s, List.map_cons, List.map_nil, List.cons_append, List.nil_append, List.length_cons, List.length_nil, List.replicate_succ, List.replicate_zero, Nat.reduceSub, Nat.reduceAdd, List.set_cons_zero, List.set_cons_succ, Option.map_some, BT.nm, wipeE, seqK_n, seqK_r, andK_t, andK_f, orK_f, orK_t, iteK_t, iteK_f, asgK_nm, asgK_t2, asgK_t3, endF_n, endF_r, slI_i, toBl_b, vw_i, vw_b, vw_t, vw_tI, vw_tT, vw_l, vw_s, vw_n, vw_ty, src_t, src_tI, src_tT, src_l, bin_add, bin_sub, neg_i, not_b, R.bind_assoc]) (fun i acc S' => ∃ c : List Int, acc = c.map D.int ∧ c.length = i ∧ (∀ x ∈ c, x = -1 ∨ x = 1) ∧ Tn ns T (b + i) S') ⟨[], rfl, rfl, by simp, ht⟩ fun i d acc S' hx hI => ?_).mono fun d S2 hd => ?_)
  · obtain ⟨c, rfl, hl, hc, ht2⟩ := hI
    have hi : i < n.toNat := by
      have := (List.getElem?_eq_some_iff.mp hx).1
      simpa using this
    refine ⟨_, rfl, ?_⟩
    simp only [e_var, e_cst, e_ty, e_gfn, e_bin, e_cmp, e_chn, e_neg, e_nt, e_one, e_and, e_or, e_ite, e_tup, e_lst, e_idx, e_slc, o_none, o_some, e_call, e_blt, e_isi, a_nil, a_cons, i_of, i_rng, c_none, c_some, s_set, s_setLc, s_asg, s_par, s_stI, s_ex, s_ret, s_if, s_rai, s_pass, b_nil, b_cons, M.opt_some, R.bind_ok, getE_0, getE_s, List.map_cons, List.map_nil, List.cons_append, List.nil_append, List.length_cons, List.length_nil, List.replicate_succ, List.replicate_zero, Nat.reduceSub, Nat.reduceAdd, List.set_cons_zero, List.set_cons_succ, Option.map_some, BT.nm, wipeE, seqK_n, seqK_r, andK_t, andK_f, orK_f, orK_t, iteK_t, iteK_f, asgK_nm, asgK_t2, asgK_t3, endF_n, endF_r, slI_i, toBl_b, vw_i, vw_b, vw_t, vw_tI, vw_tT, vw_l, vw_s, vw_n, vw_ty, src_t, src_tI, src_tT, src_l, bin_add, bin_sub, neg_i, not_b, R.bind_assoc]
    refine Wp.ok ?_
    rw [if_pos rfl]
    refine Wp.bind ((r_draw h (lim := 2) (by omega) (by omega) ht2).mono fun d S3 hd => ?_)
    obtain ⟨v, rfl, v0, v1, ht3⟩ := hd
    simp only [e_var, e_cst, e_ty, e_gfn, e_bin, e_cmp, e_chn, e_neg, e_nt, e_one, e_and, e_or, e_ite, e_tup, e_lst, e_idx, e_slc, o_none, o_some, e_call, e_blt, e_isi, a_nil, a_cons, i_of, i_rng, c_none, c_some, s_set, s_setLc, s_asg, s_par, s_stI, s_ex, s_ret, s_if, s_rai, s_pass, b_nil, b_cons, M.opt_some, R.bind_ok, getE_0, getE_s, List.map_cons, List.map_nil, List.cons_append, List.nil_append, List.length_cons, List.length_nil, List.replicate_succ, List.replicate_zero, Nat.reduceSub, Nat.reduceAdd, List.set_cons_zero, List.set_cons_succ, Option.map_some, BT.nm, wipeE, seqK_n, seqK_r, andK_t, andK_f, orK_f, orK_t, iteK_t, iteK_f, asgK_nm, asgK_t2, asgK_t3, endF_n, endF_r, slI_i, toBl_b, vw_i, vw_b, vw_t, vw_tI, vw_tT, vw_l, vw_s, vw_n, vw_ty, src_t, src_tI, src_tT, src_l, bin_add, bin_sub, neg_i, not_b, R.bind_assoc]
    have hv : v = 0 ∨ v = 1 := by omega
    rw [bin_mul (by rcases hv with rfl | rfl <;> decide)]
    simp only [e_var, e_cst, e_ty, e_gfn, e_bin, e_cmp, e_chn, e_neg, e_nt, e_one, e_and, e_or, e_ite, e_tup, e_lst, e_idx, e_slc, o_none, o_some, e_call, e_blt, e_isi, a_nil, a_cons, i_of, i_rng, c_none, c_some, s_set, s_setLc, s_asg, s_par, s_stI, s_ex, s_ret, s_if, s_rai, s_pass, b_nil, b_cons, M.opt_some, R.bind_ok, getE_0, getE_s, List.map_cons, List.map_nil, List.cons_append, List.nil_append, List.length_cons, List.length_nil, List.replicate_succ, List.replicate_zero, Nat.reduceSub, Nat.reduceAdd, List.set_cons_zero, List.set_cons_succ, Option.map_some, BT.nm, wipeE, seqK_n, seqK_r, andK_t, andK_f, orK_f, orK_t, iteK_t, iteK_f, asgK_nm, asgK_t2, asgK_t3, endF_n, endF_r, slI_i, toBl_b, vw_i, vw_b, vw_t, vw_tI, vw_tT, vw_l, vw_s, vw_n, vw_ty, src_t, src_tI, src_tT, src_l, bin_add, bin_sub, neg_i, not_b, R.bind_assoc]
    refine ⟨c ++ [2 * v - 1], by simp, by simp [hl], fun x hx => ?_, ht3.mono (by omega)⟩
    rcases List.mem_append.mp hx with hx | hx
    · exact hc x hx
    · simp at hx
      omega
  · obtain ⟨ys, rfl, c, rfl, hl, hc, ht2⟩ := hd
    rw [List.length_map, List.length_range] at hl ht2
    simp only [e_var, e_cst, e_ty, e_gfn, e_bin, e_cmp, e_chn, e_neg, e_nt, e_one, e_and, e_or, e_ite, e_tup, e_lst, e_idx, e_slc, o_none, o_some, e_call, e_blt, e_isi, a_nil, a_cons, i_of, i_rng, c_none, c_some, s_set, s_setLc, s_asg, s_par, s_stI, s_ex, s_ret, s_if, s_rai, s_pass, b_nil, b_cons, M.opt_some, R.bind_ok, getE_0, getE_s, List.map_cons, List.map_nil, List.cons_append, List.nil_append, List.length_cons, List.length_nil, List.replicate_succ, List.replicate_zero, Nat.reduceSub, Nat.reduceAdd, List.set_cons_zero, List.set_cons_succ, Option.map_some, BT.nm, wipeE, seqK_n, seqK_r, andK_t, andK_f, orK_f, orK_t, iteK_t, iteK_f, asgK_nm, asgK_t2, asgK_t3, endF_n, endF_r, slI_i, toBl_b, vw_i, vw_b, vw_t, vw_tI, vw_tT, vw_l, vw_s, vw_n, vw_ty, src_t, src_tI, src_tT, src_l, bin_add, bin_sub, neg_i, not_b, R.bind_assoc, tup_l]
    exact ⟨c, rfl, ⟨by omega, hc⟩, ht2.mono (by omega)⟩
end
end LC

set_option maxHeartbeats 4000000
/-! P6: colours that are judged. -/
namespace LC
open PySem PySem.Spec PyProof.Rows L2
structure HasJ (fs : Str → Option Fn) : Prop extends HasC fs where
  are : fs "are_colours" = some ⟨2, 3, b_are_colours⟩
  isc : fs "is_colours" = some ⟨2, 2, b_is_colours⟩
  both : fs "check_both" = some ⟨2, 2, b_check_both⟩
  smz : fs "sums" = some ⟨2, 2, b_sums⟩
  une : fs "uneven" = some ⟨2, 2, b_uneven⟩
  lun : fs "least_uneven" = some ⟨1, 1, b_least_uneven⟩
  bst : fs "all_best" = some ⟨1, 3, b_all_best⟩
def isHue : D → Bool
  | .int i => decide (i = -1 ∨ i = 1)
  | _ => false
def plainD : D → Prop
  | .int _ => True
  | .bl _ => True
  | .str _ => True
  | _ => False
section
variable {fs : Str → Option Fn} {k : Nat} {S : Store} {n : Int} {ss : List (List Int)}
theorem r_least_uneven (h : HasJ fs) (F : FamOk n ss) : runF fs (k + 5) "least_uneven" [fam n ss] S = .ok (.int (least n.toNat ss)) S := by
  rw [rf_eq h.lun]
  simp only [b_least_uneven, e_var, e_cst, e_ty, e_gfn, e_bin, e_cmp, e_chn, e_neg, e_nt, e_one, e_and, e_or, e_ite, e_tup, e_lst, e_idx, e_slc, o_none, o_some, e_call, e_blt, e_isi, a_nil, a_cons, i_of, i_rng, c_none, c_some, s_set, s_setLc, s_asg, s_par, s_stI, s_ex, s_ret, s_if, s_rai, s_pass, b_nil, b_cons, M.opt_some, R.bind_ok, getE_0, getE_s, List.map_cons, List.map_nil, List.cons_append, List.nil_append, List.length_cons, List.length_nil, List.replicate_succ, List.replicate_zero, Nat.reduceSub, Nat.reduceAdd, List.set_cons_zero, List.set_cons_succ, Option.map_some, BT.nm, wipeE, seqK_n, seqK_r, andK_t, andK_f, orK_f, orK_t, iteK_t, iteK_f, asgK_nm, asgK_t2, asgK_t3, endF_n, endF_r, slI_i, toBl_b, vw_i, vw_b, vw_t, vw_tI, vw_tT, vw_l, vw_s, vw_n, vw_ty, src_t, src_tI, src_tT, src_l, bin_add, bin_sub, neg_i, not_b, R.bind_assoc]
  rw [r_check_family h.toHasF F]
  simp only [e_var, e_cst, e_ty, e_gfn, e_bin, e_cmp, e_chn, e_neg, e_nt, e_one, e_and, e_or, e_ite, e_tup, e_lst, e_idx, e_slc, o_none, o_some, e_call, e_blt, e_isi, a_nil, a_cons, i_of, i_rng, c_none, c_some, s_set, s_setLc, s_asg, s_par, s_stI, s_ex, s_ret, s_if, s_rai, s_pass, b_nil, b_cons, M.opt_some, R.bind_ok, getE_0, getE_s, List.map_cons, List.map_nil, List.cons_append, List.nil_append, List.length_cons, List.length_nil, List.replicate_succ, List.replicate_zero, Nat.reduceSub, Nat.reduceAdd, List.set_cons_zero, List.set_cons_succ, Option.map_some, BT.nm, wipeE, seqK_n, seqK_r, andK_t, andK_f, orK_f, orK_t, iteK_t, iteK_f, asgK_nm, asgK_t2, asgK_t3, endF_n, endF_r, slI_i, toBl_b, vw_i, vw_b, vw_t, vw_tI, vw_tT, vw_l, vw_s, vw_n, vw_ty, src_t, src_tI, src_tT, src_l, bin_add, bin_sub, neg_i, not_b, R.bind_assoc]
  rw [r_least h.toHasC F]
  simp only [e_var, e_cst, e_ty, e_gfn, e_bin, e_cmp, e_chn, e_neg, e_nt, e_one, e_and, e_or, e_ite, e_tup, e_lst, e_idx, e_slc, o_none, o_some, e_call, e_blt, e_isi, a_nil, a_cons, i_of, i_rng, c_none, c_some, s_set, s_setLc, s_asg, s_par, s_stI, s_ex, s_ret, s_if, s_rai, s_pass, b_nil, b_cons, M.opt_some, R.bind_ok, getE_0, getE_s, List.map_cons, List.map_nil, List.cons_append, List.nil_append, List.length_cons, List.length_nil, List.replicate_succ, List.replicate_zero, Nat.reduceSub, Nat.reduceAdd, List.set_cons_zero, List.set_cons_succ, Option.map_some, BT.nm, wipeE, seqK_n, seqK_r, andK_t, andK_f, orK_f, orK_t, iteK_t, iteK_f, asgK_nm, asgK_t2, asgK_t3, endF_n, endF_r, slI_i, toBl_b, vw_i, vw_b, vw_t, vw_tI, vw_tT, vw_l, vw_s, vw_n, vw_ty, src_t, src_tI, src_tT, src_l, bin_add, bin_sub, neg_i, not_b, R.bind_assoc]
theorem r_all_best (h : HasJ fs) (F : FamOk n ss) : runF fs (k + 5) "all_best" [fam n ss] S = .ok (tT ((rows n.toNat).filter fun c => decide (unev c ss = least n.toNat ss))) S := by
  have hlo := F.lo
  rw [rf_eq h.bst]
  simp only [b_all_best, e_var, e_cst, e_ty, e_gfn, e_bin, e_cmp, e_chn, e_neg, e_nt, e_one, e_and, e_or, e_ite, e_tup, e_lst, e_idx, e_slc, o_none, o_some, e_call, e_blt, e_isi, a_nil, a_cons, i_of, i_rng, c_none, c_some, s_set, s_setLc, s_asg, s_par, s_stI, s_ex, s_ret, s_if, s_rai, s_pass, b_nil, b_cons, M.opt_some, R.bind_ok, getE_0, getE_s, List.map_cons, List.map_nil, List.cons_append, List.nil_append, List.length_cons, List.length_nil, List.replicate_succ, List.replicate_zero, Nat.reduceSub, Nat.reduceAdd, List.set_cons_zero, List.set_cons_succ, Option.map_some, BT.nm, wipeE, seqK_n, seqK_r, andK_t, andK_f, orK_f, orK_t, iteK_t, iteK_f, asgK_nm, asgK_t2, asgK_t3, endF_n, endF_r, slI_i, toBl_b, vw_i, vw_b, vw_t, vw_tI, vw_tT, vw_l, vw_s, vw_n, vw_ty, src_t, src_tI, src_tT, src_l, bin_add, bin_sub, neg_i, not_b, R.bind_assoc]
  rw [r_check_family h.toHasF F]
  simp only [e_var, e_cst, e_ty, e_gfn, e_bin, e_cmp, e_chn, e_neg, e_nt, e_one, e_and, e_or, e_ite, e_tup, e_lst, e_idx, e_slc, o_none, o_some, e_call, e_blt, e_isi, a_nil, a_cons, i_of, i_rng, c_none, c_some, s_set, s_setLc, s_asg, s_par, s_stI, s_ex, s_ret, s_if, s_rai, s_pass, b_nil, b_cons, M.opt_some, R.bind_ok, getE_0, getE_s, List.map_cons, List.map_nil, List.cons_append, List.nil_append, List.length_cons, List.length_nil, List.replicate_succ, List.replicate_zero, Nat.reduceSub, Nat.reduceAdd, List.set_cons_zero, List.set_cons_succ, Option.map_some, BT.nm, wipeE, seqK_n, seqK_r, andK_t, andK_f, orK_f, orK_t, iteK_t, iteK_f, asgK_nm, asgK_t2, asgK_t3, endF_n, endF_r, slI_i, toBl_b, vw_i, vw_b, vw_t, vw_tI, vw_tT, vw_l, vw_s, vw_n, vw_ty, src_t, src_tI, src_tT, src_l, bin_add, bin_sub, neg_i, not_b, R.bind_assoc]
  rw [r_least h.toHasC F]
  simp only [e_var, e_cst, e_ty, e_gfn, e_bin, e_cmp, e_chn, e_neg, e_nt, e_one, e_and, e_or, e_ite, e_tup, e_lst, e_idx, e_slc, o_none, o_some, e_call, e_blt, e_isi, a_nil, a_cons, i_of, i_rng, c_none, c_some, s_set, s_setLc, s_asg, s_par, s_stI, s_ex, s_ret, s_if, s_rai, s_pass, b_nil, b_cons, M.opt_some, R.bind_ok, getE_0, getE_s, List.map_cons, List.map_nil, List.cons_append, List.nil_append, List.length_cons, List.length_nil, List.replicate_succ, List.replicate_zero, Nat.reduceSub, Nat.reduceAdd, List.set_cons_zero, List.set_cons_succ, Option.map_some, BT.nm, wipeE, seqK_n, seqK_r, andK_t, andK_f, orK_f, orK_t, iteK_t, iteK_f, asgK_nm, asgK_t2, asgK_t3, endF_n, endF_r, slI_i, toBl_b, vw_i, vw_b, vw_t, vw_tI, vw_tT, vw_l, vw_s, vw_n, vw_ty, src_t, src_tI, src_tT, src_l, bin_add, bin_sub, neg_i, not_b, R.bind_assoc]
  rw [lcE_eq (rows n.toNat) tI (fun c => decide (unev c ss = least n.toNat ss)) tI (by simp only [e_var, e_cst, e_ty, e_gfn, e_bin, e_cmp, e_chn, e_neg, e_nt, e_one, e_and, e_or, e_ite, e_tup, e_lst, e_idx, e_slc, o_none, o_some, e_call, e_blt, e_isi, a_nil, a_cons, i_of, i_rng, c_none, c_some, s_set, s_setLc, s_asg, s_par, s_stI, s_ex, s_ret, s_if, s_rai, s_pass, b_nil, b_cons, M.opt_some, R.bind_ok, getE_0, getE_s, List.map_cons, List.map_nil, List.cons_append, List.nil_append, List.length_cons, List.length_nil, List.replicate_succ, List.replicate_zero, Nat.reduceSub, Nat.reduceAdd, List.set_cons_zero, List.set_cons_succ, Option.map_some, BT.nm, wipeE, seqK_n, seqK_r, andK_t, andK_f, orK_f, orK_t, iteK_t, iteK_f, asgK_nm, asgK_t2, asgK_t3, endF_n, endF_r, slI_i, toBl_b, vw_i, vw_b, vw_t, vw_tI, vw_tT, vw_l, vw_s, vw_n, vw_ty, src_t, src_tI, src_tT, src_l, bin_add, bin_sub, neg_i, not_b, R.bind_assoc, fam, idx_t, atI_0]; rw [r_rows h.allc (n := n) (by omega) F.hi]; simp only [e_var, e_cst, e_ty, e_gfn, e_bin, e_cmp, e_chn, e_neg, e_nt, e_one, e_and, e_or, e_ite, e_tup, e_lst, e_idx, e_slc, o_none, o_some, e_call, e_blt, e_isi, a_nil, a_cons, i_of, i_rng, c_none, c_some, s_set, s_setLc, s_asg, s_par, s_stI, s_ex, s_ret, s_if, s_rai, s_pass, b_nil, b_cons, M.opt_some, R.bind_ok, getE_0, getE_s, List.map_cons, List.map_nil, List.cons_append, List.nil_append, List.length_cons, List.length_nil, List.replicate_succ, List.replicate_zero, Nat.reduceSub, Nat.reduceAdd, List.set_cons_zero, List.set_cons_succ, Option.map_some, BT.nm, wipeE, seqK_n, seqK_r, andK_t, andK_f, orK_f, orK_t, iteK_t, iteK_f, asgK_nm, asgK_t2, asgK_t3, endF_n, endF_r, slI_i, toBl_b, vw_i, vw_b, vw_t, vw_tI, vw_tT, vw_l, vw_s, vw_n, vw_ty, src_t, src_tI, src_tT, src_l, bin_add, bin_sub, neg_i, not_b, R.bind_assoc]) (fun c hc => ⟨_, rfl, by
    have hl := ((rows_ok _ c).mp hc).1
    simp only [e_var, e_cst, e_ty, e_gfn, e_bin, e_cmp, e_chn, e_neg, e_nt, e_one, e_and, e_or, e_ite, e_tup, e_lst, e_idx, e_slc, o_none, o_some, e_call, e_blt, e_isi, a_nil, a_cons, i_of, i_rng, c_none, c_some, s_set, s_setLc, s_asg, s_par, s_stI, s_ex, s_ret, s_if, s_rai, s_pass, b_nil, b_cons, M.opt_some, R.bind_ok, getE_0, getE_s, List.map_cons, List.map_nil, List.cons_append, List.nil_append, List.length_cons, List.length_nil, List.replicate_succ, List.replicate_zero, Nat.reduceSub, Nat.reduceAdd, List.set_cons_zero, List.set_cons_succ, Option.map_some, BT.nm, wipeE, seqK_n, seqK_r, andK_t, andK_f, orK_f, orK_t, iteK_t, iteK_f, asgK_nm, asgK_t2, asgK_t3, endF_n, endF_r, slI_i, toBl_b, vw_i, vw_b, vw_t, vw_tI, vw_tT, vw_l, vw_s, vw_n, vw_ty, src_t, src_tI, src_tT, src_l, bin_add, bin_sub, neg_i, not_b, R.bind_assoc]
    rw [r_uneven rfl h.sums h.unev F (c := c) (by omega)]
    simp only [e_var, e_cst, e_ty, e_gfn, e_bin, e_cmp, e_chn, e_neg, e_nt, e_one, e_and, e_or, e_ite, e_tup, e_lst, e_idx, e_slc, o_none, o_some, e_call, e_blt, e_isi, a_nil, a_cons, i_of, i_rng, c_none, c_some, s_set, s_setLc, s_asg, s_par, s_stI, s_ex, s_ret, s_if, s_rai, s_pass, b_nil, b_cons, M.opt_some, R.bind_ok, getE_0, getE_s, List.map_cons, List.map_nil, List.cons_append, List.nil_append, List.length_cons, List.length_nil, List.replicate_succ, List.replicate_zero, Nat.reduceSub, Nat.reduceAdd, List.set_cons_zero, List.set_cons_succ, Option.map_some, BT.nm, wipeE, seqK_n, seqK_r, andK_t, andK_f, orK_f, orK_t, iteK_t, iteK_f, asgK_nm, asgK_t2, asgK_t3, endF_n, endF_r, slI_i, toBl_b, vw_i, vw_b, vw_t, vw_tI, vw_tT, vw_l, vw_s, vw_n, vw_ty, src_t, src_tI, src_tT, src_l, bin_add, bin_sub, neg_i, not_b, R.bind_assoc, ceq_i], fun _ => by simp only [e_var, e_cst, e_ty, e_gfn, e_bin, e_cmp, e_chn, e_neg, e_nt, e_one, e_and, e_or, e_ite, e_tup, e_lst, e_idx, e_slc, o_none, o_some, e_call, e_blt, e_isi, a_nil, a_cons, i_of, i_rng, c_none, c_some, s_set, s_setLc, s_asg, s_par, s_stI, s_ex, s_ret, s_if, s_rai, s_pass, b_nil, b_cons, M.opt_some, R.bind_ok, getE_0, getE_s, List.map_cons, List.map_nil, List.cons_append, List.nil_append, List.length_cons, List.length_nil, List.replicate_succ, List.replicate_zero, Nat.reduceSub, Nat.reduceAdd, List.set_cons_zero, List.set_cons_succ, Option.map_some, BT.nm, wipeE, seqK_n, seqK_r, andK_t, andK_f, orK_f, orK_t, iteK_t, iteK_f, asgK_nm, asgK_t2, asgK_t3, endF_n, endF_r, slI_i, toBl_b, vw_i, vw_b, vw_t, vw_tI, vw_tT, vw_l, vw_s, vw_n, vw_ty, src_t, src_tI, src_tT, src_l, bin_add, bin_sub, neg_i, not_b, R.bind_assoc]⟩)]
  simp only [e_var, e_cst, e_ty, e_gfn, e_bin, e_cmp, e_chn, e_neg, e_nt, e_one, e_and, e_or, e_ite, e_tup, e_lst, e_idx, e_slc, o_none, o_some, e_call, e_blt, e_isi, a_nil, a_cons, i_of, i_rng, c_none, c_some, s_set, s_setLc, s_asg, s_par, s_stI, s_ex, s_ret, s_if, s_rai, s_pass, b_nil, b_cons, M.opt_some, R.bind_ok, getE_0, getE_s, List.map_cons, List.map_nil, List.cons_append, List.nil_append, List.length_cons, List.length_nil, List.replicate_succ, List.replicate_zero, Nat.reduceSub, Nat.reduceAdd, List.set_cons_zero, List.set_cons_succ, Option.map_some, BT.nm, wipeE, seqK_n, seqK_r, andK_t, andK_f, orK_f, orK_t, iteK_t, iteK_f, asgK_nm, asgK_t2, asgK_t3, endF_n, endF_r, slI_i, toBl_b, vw_i, vw_b, vw_t, vw_tI, vw_tT, vw_l, vw_s, vw_n, vw_ty, src_t, src_tI, src_tT, src_l, bin_add, bin_sub, neg_i, not_b, R.bind_assoc, tup_l]
  rfl
theorem r_are (h : HasJ fs) (xs : List D) (hp : ∀ x ∈ xs, plainD x) : runF fs (k + 1) "are_colours" [fam n ss, .tup xs] S = .ok (.bl (decide ((xs.length : Int) = n) && xs.all isHue)) S := by
  rw [rf_eq h.are]
  simp only [b_are_colours, e_var, e_cst, e_ty, e_gfn, e_bin, e_cmp, e_chn, e_neg, e_nt, e_one, e_and, e_or, e_ite, e_tup, e_lst, e_idx, e_slc, o_none, o_some, e_call, e_blt, e_isi, a_nil, a_cons, i_of, i_rng, c_none, c_some, s_set, s_setLc, s_asg, s_par, s_stI, s_ex, s_ret, s_if, s_rai, s_pass, b_nil, b_cons, M.opt_some, R.bind_ok, getE_0, getE_s, List.map_cons, List.map_nil, List.cons_append, List.nil_append, List.length_cons, List.length_nil, List.replicate_succ, List.replicate_zero, Nat.reduceSub, Nat.reduceAdd, List.set_cons_zero, List.set_cons_succ, Option.map_some, BT.nm, wipeE, seqK_n, seqK_r, andK_t, andK_f, orK_f, orK_t, iteK_t, iteK_f, asgK_nm, asgK_t2, asgK_t3, endF_n, endF_r, slI_i, toBl_b, vw_i, vw_b, vw_t, vw_tI, vw_tT, vw_l, vw_s, vw_n, vw_ty, src_t, src_tI, src_tT, src_l, bin_add, bin_sub, neg_i, not_b, R.bind_assoc, isi_tup, kit7, Bool.not_true, len_t, fam, idx_t, atI_0, cne_i]
  by_cases hl : (xs.length : Int) = n
  · simp only [decide_eq_true hl, Bool.not_true, e_var, e_cst, e_ty, e_gfn, e_bin, e_cmp, e_chn, e_neg, e_nt, e_one, e_and, e_or, e_ite, e_tup, e_lst, e_idx, e_slc, o_none, o_some, e_call, e_blt, e_isi, a_nil, a_cons, i_of, i_rng, c_none, c_some, s_set, s_setLc, s_asg, s_par, s_stI, s_ex, s_ret, s_if, s_rai, s_pass, b_nil, b_cons, M.opt_some, R.bind_ok, getE_0, getE_s, List.map_cons, List.map_nil, List.cons_append, List.nil_append, List.length_cons, List.length_nil, List.replicate_succ, List.replicate_zero, Nat.reduceSub, Nat.reduceAdd, List.set_cons_zero, List.set_cons_succ, Option.map_some, BT.nm, wipeE, seqK_n, seqK_r, andK_t, andK_f, orK_f, orK_t, iteK_t, iteK_f, asgK_nm, asgK_t2, asgK_t3, endF_n, endF_r, slI_i, toBl_b, vw_i, vw_b, vw_t, vw_tI, vw_tT, vw_l, vw_s, vw_n, vw_ty, src_t, src_tI, src_tT, src_l, bin_add, bin_sub, neg_i, not_b, R.bind_assoc]
    rw [lcE_map xs id (fun x => D.bl (isHue x)) (by simp only [e_var, e_cst, e_ty, e_gfn, e_bin, e_cmp, e_chn, e_neg, e_nt, e_one, e_and, e_or, e_ite, e_tup, e_lst, e_idx, e_slc, o_none, o_some, e_call, e_blt, e_isi, a_nil, a_cons, i_of, i_rng, c_none, c_some, s_set, s_setLc, s_asg, s_par, s_stI, s_ex, s_ret, s_if, s_rai, s_pass, b_nil, b_cons, M.opt_some, R.bind_ok, getE_0, getE_s, List.map_cons, List.map_nil, List.cons_append, List.nil_append, List.length_cons, List.length_nil, List.replicate_succ, List.replicate_zero, Nat.reduceSub, Nat.reduceAdd, List.set_cons_zero, List.set_cons_succ, Option.map_some, BT.nm, wipeE, seqK_n, seqK_r, andK_t, andK_f, orK_f, orK_t, iteK_t, iteK_f, asgK_nm, asgK_t2, asgK_t3, endF_n, endF_r, slI_i, toBl_b, vw_i, vw_b, vw_t, vw_tI, vw_tT, vw_l, vw_s, vw_n, vw_ty, src_t, src_tI, src_tT, src_l, bin_add, bin_sub, neg_i, not_b, R.bind_assoc, List.map_id]) (fun x hx => ⟨_, rfl, by
      have := hp x hx
      cases x with
      | int i =>
        simp only [id, e_var, e_cst, e_ty, e_gfn, e_bin, e_cmp, e_chn, e_neg, e_nt, e_one, e_and, e_or, e_ite, e_tup, e_lst, e_idx, e_slc, o_none, o_some, e_call, e_blt, e_isi, a_nil, a_cons, i_of, i_rng, c_none, c_some, s_set, s_setLc, s_asg, s_par, s_stI, s_ex, s_ret, s_if, s_rai, s_pass, b_nil, b_cons, M.opt_some, R.bind_ok, getE_0, getE_s, List.map_cons, List.map_nil, List.cons_append, List.nil_append, List.length_cons, List.length_nil, List.replicate_succ, List.replicate_zero, Nat.reduceSub, Nat.reduceAdd, List.set_cons_zero, List.set_cons_succ, Option.map_some, BT.nm, wipeE, seqK_n, seqK_r, andK_t, andK_f, orK_f, orK_t, iteK_t, iteK_f, asgK_nm, asgK_t2, asgK_t3, endF_n, endF_r, slI_i, toBl_b, vw_i, vw_b, vw_t, vw_tI, vw_tT, vw_l, vw_s, vw_n, vw_ty, src_t, src_tI, src_tT, src_l, bin_add, bin_sub, neg_i, not_b, R.bind_assoc, isi_int, kit1, kit2, Bool.not_false]
        have e := cin_tI i [-1, 1]
        simp only [tI, List.map_cons, List.map_nil] at e
        rw [e]
        simp only [e_var, e_cst, e_ty, e_gfn, e_bin, e_cmp, e_chn, e_neg, e_nt, e_one, e_and, e_or, e_ite, e_tup, e_lst, e_idx, e_slc, o_none, o_some, e_call, e_blt, e_isi, a_nil, a_cons, i_of, i_rng, c_none, c_some, s_set, s_setLc, s_asg, s_par, s_stI, s_ex, s_ret, s_if, s_rai, s_pass, b_nil, b_cons, M.opt_some, R.bind_ok, getE_0, getE_s, List.map_cons, List.map_nil, List.cons_append, List.nil_append, List.length_cons, List.length_nil, List.replicate_succ, List.replicate_zero, Nat.reduceSub, Nat.reduceAdd, List.set_cons_zero, List.set_cons_succ, Option.map_some, BT.nm, wipeE, seqK_n, seqK_r, andK_t, andK_f, orK_f, orK_t, iteK_t, iteK_f, asgK_nm, asgK_t2, asgK_t3, endF_n, endF_r, slI_i, toBl_b, vw_i, vw_b, vw_t, vw_tI, vw_tT, vw_l, vw_s, vw_n, vw_ty, src_t, src_tI, src_tT, src_l, bin_add, bin_sub, neg_i, not_b, R.bind_assoc, isHue]
        simp
      | bl b => simp only [id, e_var, e_cst, e_ty, e_gfn, e_bin, e_cmp, e_chn, e_neg, e_nt, e_one, e_and, e_or, e_ite, e_tup, e_lst, e_idx, e_slc, o_none, o_some, e_call, e_blt, e_isi, a_nil, a_cons, i_of, i_rng, c_none, c_some, s_set, s_setLc, s_asg, s_par, s_stI, s_ex, s_ret, s_if, s_rai, s_pass, b_nil, b_cons, M.opt_some, R.bind_ok, getE_0, getE_s, List.map_cons, List.map_nil, List.cons_append, List.nil_append, List.length_cons, List.length_nil, List.replicate_succ, List.replicate_zero, Nat.reduceSub, Nat.reduceAdd, List.set_cons_zero, List.set_cons_succ, Option.map_some, BT.nm, wipeE, seqK_n, seqK_r, andK_t, andK_f, orK_f, orK_t, iteK_t, iteK_f, asgK_nm, asgK_t2, asgK_t3, endF_n, endF_r, slI_i, toBl_b, vw_i, vw_b, vw_t, vw_tI, vw_tT, vw_l, vw_s, vw_n, vw_ty, src_t, src_tI, src_tT, src_l, bin_add, bin_sub, neg_i, not_b, R.bind_assoc, isi_bl, kit3, kit4, Bool.not_true, isHue]
      | str z => simp only [id, e_var, e_cst, e_ty, e_gfn, e_bin, e_cmp, e_chn, e_neg, e_nt, e_one, e_and, e_or, e_ite, e_tup, e_lst, e_idx, e_slc, o_none, o_some, e_call, e_blt, e_isi, a_nil, a_cons, i_of, i_rng, c_none, c_some, s_set, s_setLc, s_asg, s_par, s_stI, s_ex, s_ret, s_if, s_rai, s_pass, b_nil, b_cons, M.opt_some, R.bind_ok, getE_0, getE_s, List.map_cons, List.map_nil, List.cons_append, List.nil_append, List.length_cons, List.length_nil, List.replicate_succ, List.replicate_zero, Nat.reduceSub, Nat.reduceAdd, List.set_cons_zero, List.set_cons_succ, Option.map_some, BT.nm, wipeE, seqK_n, seqK_r, andK_t, andK_f, orK_f, orK_t, iteK_t, iteK_f, asgK_nm, asgK_t2, asgK_t3, endF_n, endF_r, slI_i, toBl_b, vw_i, vw_b, vw_t, vw_tI, vw_tT, vw_l, vw_s, vw_n, vw_ty, src_t, src_tI, src_tT, src_l, bin_add, bin_sub, neg_i, not_b, R.bind_assoc, isi_str, kit5, isHue]
      | _ => exact this.elim⟩)]
    simp only [e_var, e_cst, e_ty, e_gfn, e_bin, e_cmp, e_chn, e_neg, e_nt, e_one, e_and, e_or, e_ite, e_tup, e_lst, e_idx, e_slc, o_none, o_some, e_call, e_blt, e_isi, a_nil, a_cons, i_of, i_rng, c_none, c_some, s_set, s_setLc, s_asg, s_par, s_stI, s_ex, s_ret, s_if, s_rai, s_pass, b_nil, b_cons, M.opt_some, R.bind_ok, getE_0, getE_s, List.map_cons, List.map_nil, List.cons_append, List.nil_append, List.length_cons, List.length_nil, List.replicate_succ, List.replicate_zero, Nat.reduceSub, Nat.reduceAdd, List.set_cons_zero, List.set_cons_succ, Option.map_some, BT.nm, wipeE, seqK_n, seqK_r, andK_t, andK_f, orK_f, orK_t, iteK_t, iteK_f, asgK_nm, asgK_t2, asgK_t3, endF_n, endF_r, slI_i, toBl_b, vw_i, vw_b, vw_t, vw_tI, vw_tT, vw_l, vw_s, vw_n, vw_ty, src_t, src_tI, src_tT, src_l, bin_add, bin_sub, neg_i, not_b, R.bind_assoc, all_m, Bool.true_and]
  · simp only [decide_eq_false hl, Bool.not_false, e_var, e_cst, e_ty, e_gfn, e_bin, e_cmp, e_chn, e_neg, e_nt, e_one, e_and, e_or, e_ite, e_tup, e_lst, e_idx, e_slc, o_none, o_some, e_call, e_blt, e_isi, a_nil, a_cons, i_of, i_rng, c_none, c_some, s_set, s_setLc, s_asg, s_par, s_stI, s_ex, s_ret, s_if, s_rai, s_pass, b_nil, b_cons, M.opt_some, R.bind_ok, getE_0, getE_s, List.map_cons, List.map_nil, List.cons_append, List.nil_append, List.length_cons, List.length_nil, List.replicate_succ, List.replicate_zero, Nat.reduceSub, Nat.reduceAdd, List.set_cons_zero, List.set_cons_succ, Option.map_some, BT.nm, wipeE, seqK_n, seqK_r, andK_t, andK_f, orK_f, orK_t, iteK_t, iteK_f, asgK_nm, asgK_t2, asgK_t3, endF_n, endF_r, slI_i, toBl_b, vw_i, vw_b, vw_t, vw_tI, vw_tT, vw_l, vw_s, vw_n, vw_ty, src_t, src_tI, src_tT, src_l, bin_add, bin_sub, neg_i, not_b, R.bind_assoc, Bool.false_and]
theorem r_are_no (h : HasJ fs) {x : D} (hx : ∀ S, fIsi S [x, .ty "tuple"] = some (.bl false)) : runF fs (k + 1) "are_colours" [fam n ss, x] S = .ok (.bl false) S := by
  rw [rf_eq h.are]
  simp only [b_are_colours, e_var, e_cst, e_ty, e_gfn, e_bin, e_cmp, e_chn, e_neg, e_nt, e_one, e_and, e_or, e_ite, e_tup, e_lst, e_idx, e_slc, o_none, o_some, e_call, e_blt, e_isi, a_nil, a_cons, i_of, i_rng, c_none, c_some, s_set, s_setLc, s_asg, s_par, s_stI, s_ex, s_ret, s_if, s_rai, s_pass, b_nil, b_cons, M.opt_some, R.bind_ok, getE_0, getE_s, List.map_cons, List.map_nil, List.cons_append, List.nil_append, List.length_cons, List.length_nil, List.replicate_succ, List.replicate_zero, Nat.reduceSub, Nat.reduceAdd, List.set_cons_zero, List.set_cons_succ, Option.map_some, BT.nm, wipeE, seqK_n, seqK_r, andK_t, andK_f, orK_f, orK_t, iteK_t, iteK_f, asgK_nm, asgK_t2, asgK_t3, endF_n, endF_r, slI_i, toBl_b, vw_i, vw_b, vw_t, vw_tI, vw_tT, vw_l, vw_s, vw_n, vw_ty, src_t, src_tI, src_tT, src_l, bin_add, bin_sub, neg_i, not_b, R.bind_assoc, hx, Bool.not_false]
theorem r_isc (h : HasJ fs) (F : FamOk n ss) {x : D} {b : Bool} (hx : ∀ k S, runF fs (k + 1) "are_colours" [fam n ss, x] S = .ok (.bl b) S) : runF fs (k + 5) "is_colours" [fam n ss, x] S = .ok (.bl b) S := by
  rw [rf_eq h.isc]
  simp only [b_is_colours, e_var, e_cst, e_ty, e_gfn, e_bin, e_cmp, e_chn, e_neg, e_nt, e_one, e_and, e_or, e_ite, e_tup, e_lst, e_idx, e_slc, o_none, o_some, e_call, e_blt, e_isi, a_nil, a_cons, i_of, i_rng, c_none, c_some, s_set, s_setLc, s_asg, s_par, s_stI, s_ex, s_ret, s_if, s_rai, s_pass, b_nil, b_cons, M.opt_some, R.bind_ok, getE_0, getE_s, List.map_cons, List.map_nil, List.cons_append, List.nil_append, List.length_cons, List.length_nil, List.replicate_succ, List.replicate_zero, Nat.reduceSub, Nat.reduceAdd, List.set_cons_zero, List.set_cons_succ, Option.map_some, BT.nm, wipeE, seqK_n, seqK_r, andK_t, andK_f, orK_f, orK_t, iteK_t, iteK_f, asgK_nm, asgK_t2, asgK_t3, endF_n, endF_r, slI_i, toBl_b, vw_i, vw_b, vw_t, vw_tI, vw_tT, vw_l, vw_s, vw_n, vw_ty, src_t, src_tI, src_tT, src_l, bin_add, bin_sub, neg_i, not_b, R.bind_assoc]
  rw [r_check_family h.toHasF F]
  simp only [e_var, e_cst, e_ty, e_gfn, e_bin, e_cmp, e_chn, e_neg, e_nt, e_one, e_and, e_or, e_ite, e_tup, e_lst, e_idx, e_slc, o_none, o_some, e_call, e_blt, e_isi, a_nil, a_cons, i_of, i_rng, c_none, c_some, s_set, s_setLc, s_asg, s_par, s_stI, s_ex, s_ret, s_if, s_rai, s_pass, b_nil, b_cons, M.opt_some, R.bind_ok, getE_0, getE_s, List.map_cons, List.map_nil, List.cons_append, List.nil_append, List.length_cons, List.length_nil, List.replicate_succ, List.replicate_zero, Nat.reduceSub, Nat.reduceAdd, List.set_cons_zero, List.set_cons_succ, Option.map_some, BT.nm, wipeE, seqK_n, seqK_r, andK_t, andK_f, orK_f, orK_t, iteK_t, iteK_f, asgK_nm, asgK_t2, asgK_t3, endF_n, endF_r, slI_i, toBl_b, vw_i, vw_b, vw_t, vw_tI, vw_tT, vw_l, vw_s, vw_n, vw_ty, src_t, src_tI, src_tT, src_l, bin_add, bin_sub, neg_i, not_b, R.bind_assoc]
  rw [hx]
  simp only [e_var, e_cst, e_ty, e_gfn, e_bin, e_cmp, e_chn, e_neg, e_nt, e_one, e_and, e_or, e_ite, e_tup, e_lst, e_idx, e_slc, o_none, o_some, e_call, e_blt, e_isi, a_nil, a_cons, i_of, i_rng, c_none, c_some, s_set, s_setLc, s_asg, s_par, s_stI, s_ex, s_ret, s_if, s_rai, s_pass, b_nil, b_cons, M.opt_some, R.bind_ok, getE_0, getE_s, List.map_cons, List.map_nil, List.cons_append, List.nil_append, List.length_cons, List.length_nil, List.replicate_succ, List.replicate_zero, Nat.reduceSub, Nat.reduceAdd, List.set_cons_zero, List.set_cons_succ, Option.map_some, BT.nm, wipeE, seqK_n, seqK_r, andK_t, andK_f, orK_f, orK_t, iteK_t, iteK_f, asgK_nm, asgK_t2, asgK_t3, endF_n, endF_r, slI_i, toBl_b, vw_i, vw_b, vw_t, vw_tI, vw_tT, vw_l, vw_s, vw_n, vw_ty, src_t, src_tI, src_tT, src_l, bin_add, bin_sub, neg_i, not_b, R.bind_assoc]
theorem hue_all {c : List Int} (hc : hueOk n c) : ∀ (k : Nat) (S : Store), HasJ fs → runF fs (k + 1) "are_colours" [fam n ss, tI c] S = .ok (.bl true) S := fun k S h => by
  have := r_are (k := k) (S := S) (n := n) (ss := ss) h (c.map D.int) (fun x hx => by
    obtain ⟨i, _, rfl⟩ := List.mem_map.mp hx
    trivial)
  rw [show tI c = .tup (c.map D.int) from rfl, this, List.length_map, decide_eq_true hc.1]
  have : (c.map D.int).all isHue = true := by
    rw [List.all_map, List.all_eq_true]
    intro x hx
    exact decide_eq_true (hc.2 x hx)
  rw [this]
  rfl
theorem r_check_both (h : HasJ fs) (F : FamOk n ss) {c : List Int} (hc : hueOk n c) : runF fs (k + 5) "check_both" [fam n ss, tI c] S = .ok .non S := by
  rw [rf_eq h.both]
  simp only [b_check_both, e_var, e_cst, e_ty, e_gfn, e_bin, e_cmp, e_chn, e_neg, e_nt, e_one, e_and, e_or, e_ite, e_tup, e_lst, e_idx, e_slc, o_none, o_some, e_call, e_blt, e_isi, a_nil, a_cons, i_of, i_rng, c_none, c_some, s_set, s_setLc, s_asg, s_par, s_stI, s_ex, s_ret, s_if, s_rai, s_pass, b_nil, b_cons, M.opt_some, R.bind_ok, getE_0, getE_s, List.map_cons, List.map_nil, List.cons_append, List.nil_append, List.length_cons, List.length_nil, List.replicate_succ, List.replicate_zero, Nat.reduceSub, Nat.reduceAdd, List.set_cons_zero, List.set_cons_succ, Option.map_some, BT.nm, wipeE, seqK_n, seqK_r, andK_t, andK_f, orK_f, orK_t, iteK_t, iteK_f, asgK_nm, asgK_t2, asgK_t3, endF_n, endF_r, slI_i, toBl_b, vw_i, vw_b, vw_t, vw_tI, vw_tT, vw_l, vw_s, vw_n, vw_ty, src_t, src_tI, src_tT, src_l, bin_add, bin_sub, neg_i, not_b, R.bind_assoc]
  rw [r_check_family h.toHasF F]
  simp only [e_var, e_cst, e_ty, e_gfn, e_bin, e_cmp, e_chn, e_neg, e_nt, e_one, e_and, e_or, e_ite, e_tup, e_lst, e_idx, e_slc, o_none, o_some, e_call, e_blt, e_isi, a_nil, a_cons, i_of, i_rng, c_none, c_some, s_set, s_setLc, s_asg, s_par, s_stI, s_ex, s_ret, s_if, s_rai, s_pass, b_nil, b_cons, M.opt_some, R.bind_ok, getE_0, getE_s, List.map_cons, List.map_nil, List.cons_append, List.nil_append, List.length_cons, List.length_nil, List.replicate_succ, List.replicate_zero, Nat.reduceSub, Nat.reduceAdd, List.set_cons_zero, List.set_cons_succ, Option.map_some, BT.nm, wipeE, seqK_n, seqK_r, andK_t, andK_f, orK_f, orK_t, iteK_t, iteK_f, asgK_nm, asgK_t2, asgK_t3, endF_n, endF_r, slI_i, toBl_b, vw_i, vw_b, vw_t, vw_tI, vw_tT, vw_l, vw_s, vw_n, vw_ty, src_t, src_tI, src_tT, src_l, bin_add, bin_sub, neg_i, not_b, R.bind_assoc]
  rw [hue_all hc _ _ h]
  simp only [e_var, e_cst, e_ty, e_gfn, e_bin, e_cmp, e_chn, e_neg, e_nt, e_one, e_and, e_or, e_ite, e_tup, e_lst, e_idx, e_slc, o_none, o_some, e_call, e_blt, e_isi, a_nil, a_cons, i_of, i_rng, c_none, c_some, s_set, s_setLc, s_asg, s_par, s_stI, s_ex, s_ret, s_if, s_rai, s_pass, b_nil, b_cons, M.opt_some, R.bind_ok, getE_0, getE_s, List.map_cons, List.map_nil, List.cons_append, List.nil_append, List.length_cons, List.length_nil, List.replicate_succ, List.replicate_zero, Nat.reduceSub, Nat.reduceAdd, List.set_cons_zero, List.set_cons_succ, Option.map_some, BT.nm, wipeE, seqK_n, seqK_r, andK_t, andK_f, orK_f, orK_t, iteK_t, iteK_f, asgK_nm, asgK_t2, asgK_t3, endF_n, endF_r, slI_i, toBl_b, vw_i, vw_b, vw_t, vw_tI, vw_tT, vw_l, vw_s, vw_n, vw_ty, src_t, src_tI, src_tT, src_l, bin_add, bin_sub, neg_i, not_b, R.bind_assoc, Bool.not_true]
theorem r_sumz (h : HasJ fs) (F : FamOk n ss) {c : List Int} (hc : hueOk n c) : runF fs (k + 6) "sums" [fam n ss, tI c] S = .ok (tI (ss.map (ssum c))) S := by
  rw [rf_eq h.smz]
  simp only [b_sums, e_var, e_cst, e_ty, e_gfn, e_bin, e_cmp, e_chn, e_neg, e_nt, e_one, e_and, e_or, e_ite, e_tup, e_lst, e_idx, e_slc, o_none, o_some, e_call, e_blt, e_isi, a_nil, a_cons, i_of, i_rng, c_none, c_some, s_set, s_setLc, s_asg, s_par, s_stI, s_ex, s_ret, s_if, s_rai, s_pass, b_nil, b_cons, M.opt_some, R.bind_ok, getE_0, getE_s, List.map_cons, List.map_nil, List.cons_append, List.nil_append, List.length_cons, List.length_nil, List.replicate_succ, List.replicate_zero, Nat.reduceSub, Nat.reduceAdd, List.set_cons_zero, List.set_cons_succ, Option.map_some, BT.nm, wipeE, seqK_n, seqK_r, andK_t, andK_f, orK_f, orK_t, iteK_t, iteK_f, asgK_nm, asgK_t2, asgK_t3, endF_n, endF_r, slI_i, toBl_b, vw_i, vw_b, vw_t, vw_tI, vw_tT, vw_l, vw_s, vw_n, vw_ty, src_t, src_tI, src_tT, src_l, bin_add, bin_sub, neg_i, not_b, R.bind_assoc]
  rw [r_check_both h F hc]
  simp only [e_var, e_cst, e_ty, e_gfn, e_bin, e_cmp, e_chn, e_neg, e_nt, e_one, e_and, e_or, e_ite, e_tup, e_lst, e_idx, e_slc, o_none, o_some, e_call, e_blt, e_isi, a_nil, a_cons, i_of, i_rng, c_none, c_some, s_set, s_setLc, s_asg, s_par, s_stI, s_ex, s_ret, s_if, s_rai, s_pass, b_nil, b_cons, M.opt_some, R.bind_ok, getE_0, getE_s, List.map_cons, List.map_nil, List.cons_append, List.nil_append, List.length_cons, List.length_nil, List.replicate_succ, List.replicate_zero, Nat.reduceSub, Nat.reduceAdd, List.set_cons_zero, List.set_cons_succ, Option.map_some, BT.nm, wipeE, seqK_n, seqK_r, andK_t, andK_f, orK_f, orK_t, iteK_t, iteK_f, asgK_nm, asgK_t2, asgK_t3, endF_n, endF_r, slI_i, toBl_b, vw_i, vw_b, vw_t, vw_tI, vw_tT, vw_l, vw_s, vw_n, vw_ty, src_t, src_tI, src_tT, src_l, bin_add, bin_sub, neg_i, not_b, R.bind_assoc]
  rw [r_sums h.sums F hc.1]
  simp only [e_var, e_cst, e_ty, e_gfn, e_bin, e_cmp, e_chn, e_neg, e_nt, e_one, e_and, e_or, e_ite, e_tup, e_lst, e_idx, e_slc, o_none, o_some, e_call, e_blt, e_isi, a_nil, a_cons, i_of, i_rng, c_none, c_some, s_set, s_setLc, s_asg, s_par, s_stI, s_ex, s_ret, s_if, s_rai, s_pass, b_nil, b_cons, M.opt_some, R.bind_ok, getE_0, getE_s, List.map_cons, List.map_nil, List.cons_append, List.nil_append, List.length_cons, List.length_nil, List.replicate_succ, List.replicate_zero, Nat.reduceSub, Nat.reduceAdd, List.set_cons_zero, List.set_cons_succ, Option.map_some, BT.nm, wipeE, seqK_n, seqK_r, andK_t, andK_f, orK_f, orK_t, iteK_t, iteK_f, asgK_nm, asgK_t2, asgK_t3, endF_n, endF_r, slI_i, toBl_b, vw_i, vw_b, vw_t, vw_tI, vw_tT, vw_l, vw_s, vw_n, vw_ty, src_t, src_tI, src_tT, src_l, bin_add, bin_sub, neg_i, not_b, R.bind_assoc]
theorem r_une (h : HasJ fs) (F : FamOk n ss) {c : List Int} (hc : hueOk n c) : runF fs (k + 6) "uneven" [fam n ss, tI c] S = .ok (.int (unev c ss)) S := by
  rw [rf_eq h.une]
  simp only [b_uneven, e_var, e_cst, e_ty, e_gfn, e_bin, e_cmp, e_chn, e_neg, e_nt, e_one, e_and, e_or, e_ite, e_tup, e_lst, e_idx, e_slc, o_none, o_some, e_call, e_blt, e_isi, a_nil, a_cons, i_of, i_rng, c_none, c_some, s_set, s_setLc, s_asg, s_par, s_stI, s_ex, s_ret, s_if, s_rai, s_pass, b_nil, b_cons, M.opt_some, R.bind_ok, getE_0, getE_s, List.map_cons, List.map_nil, List.cons_append, List.nil_append, List.length_cons, List.length_nil, List.replicate_succ, List.replicate_zero, Nat.reduceSub, Nat.reduceAdd, List.set_cons_zero, List.set_cons_succ, Option.map_some, BT.nm, wipeE, seqK_n, seqK_r, andK_t, andK_f, orK_f, orK_t, iteK_t, iteK_f, asgK_nm, asgK_t2, asgK_t3, endF_n, endF_r, slI_i, toBl_b, vw_i, vw_b, vw_t, vw_tI, vw_tT, vw_l, vw_s, vw_n, vw_ty, src_t, src_tI, src_tT, src_l, bin_add, bin_sub, neg_i, not_b, R.bind_assoc]
  rw [r_check_both h F hc]
  simp only [e_var, e_cst, e_ty, e_gfn, e_bin, e_cmp, e_chn, e_neg, e_nt, e_one, e_and, e_or, e_ite, e_tup, e_lst, e_idx, e_slc, o_none, o_some, e_call, e_blt, e_isi, a_nil, a_cons, i_of, i_rng, c_none, c_some, s_set, s_setLc, s_asg, s_par, s_stI, s_ex, s_ret, s_if, s_rai, s_pass, b_nil, b_cons, M.opt_some, R.bind_ok, getE_0, getE_s, List.map_cons, List.map_nil, List.cons_append, List.nil_append, List.length_cons, List.length_nil, List.replicate_succ, List.replicate_zero, Nat.reduceSub, Nat.reduceAdd, List.set_cons_zero, List.set_cons_succ, Option.map_some, BT.nm, wipeE, seqK_n, seqK_r, andK_t, andK_f, orK_f, orK_t, iteK_t, iteK_f, asgK_nm, asgK_t2, asgK_t3, endF_n, endF_r, slI_i, toBl_b, vw_i, vw_b, vw_t, vw_tI, vw_tT, vw_l, vw_s, vw_n, vw_ty, src_t, src_tI, src_tT, src_l, bin_add, bin_sub, neg_i, not_b, R.bind_assoc]
  rw [r_uneven rfl h.sums h.unev F hc.1]
  simp only [e_var, e_cst, e_ty, e_gfn, e_bin, e_cmp, e_chn, e_neg, e_nt, e_one, e_and, e_or, e_ite, e_tup, e_lst, e_idx, e_slc, o_none, o_some, e_call, e_blt, e_isi, a_nil, a_cons, i_of, i_rng, c_none, c_some, s_set, s_setLc, s_asg, s_par, s_stI, s_ex, s_ret, s_if, s_rai, s_pass, b_nil, b_cons, M.opt_some, R.bind_ok, getE_0, getE_s, List.map_cons, List.map_nil, List.cons_append, List.nil_append, List.length_cons, List.length_nil, List.replicate_succ, List.replicate_zero, Nat.reduceSub, Nat.reduceAdd, List.set_cons_zero, List.set_cons_succ, Option.map_some, BT.nm, wipeE, seqK_n, seqK_r, andK_t, andK_f, orK_f, orK_t, iteK_t, iteK_f, asgK_nm, asgK_t2, asgK_t3, endF_n, endF_r, slI_i, toBl_b, vw_i, vw_b, vw_t, vw_tI, vw_tT, vw_l, vw_s, vw_n, vw_ty, src_t, src_tI, src_tT, src_l, bin_add, bin_sub, neg_i, not_b, R.bind_assoc]
end
end LC

set_option maxHeartbeats 4000000
/-! M20: the least is below twice the most that one thing stands in sets; its parity. -/
namespace LC
/-! ### sums over places -/
def ixs (n : Nat) : List Int := (List.range n).map fun i : Nat => (i : Int)
theorem mem_ixs {n : Nat} {x : Int} : x ∈ ixs n ↔ 0 ≤ x ∧ x < n := by
  unfold ixs
  rw [List.mem_map]
  constructor
  · rintro ⟨i, hi, rfl⟩
    have := List.mem_range.mp hi
    omega
  · rintro ⟨h0, h1⟩
    exact ⟨x.toNat, List.mem_range.mpr (by omega), by omega⟩
theorem ixs_inc (n : Nat) : (ixs n).Pairwise (· < ·) := by
  unfold ixs
  rw [List.pairwise_map]
  exact List.pairwise_lt_range.imp fun h => by omega
theorem inc_eq : ∀ a b : List Int, a.Pairwise (· < ·) → b.Pairwise (· < ·) → (∀ x, x ∈ a ↔ x ∈ b) → a = b
  | [], [], _, _, _ => rfl
  | [], y :: ys, _, _, h => by
    have := (h y).mpr List.mem_cons_self
    cases this
  | x :: xs, [], _, _, h => by
    have := (h x).mp List.mem_cons_self
    cases this
  | x :: xs, y :: ys, ha, hb, h => by
    obtain ⟨a1, a2⟩ := List.pairwise_cons.mp ha
    obtain ⟨b1, b2⟩ := List.pairwise_cons.mp hb
    have e : x = y := by
      rcases List.mem_cons.mp ((h x).mp List.mem_cons_self) with e | hx
      · exact e
      · rcases List.mem_cons.mp ((h y).mpr List.mem_cons_self) with e | hy
        · exact e.symm
        · have := b1 x hx
          have := a1 y hy
          omega
    subst e
    rw [inc_eq xs ys a2 b2 fun z => ?_]
    constructor
    · intro hz
      rcases List.mem_cons.mp ((h z).mp (List.mem_cons_of_mem _ hz)) with e | hz'
      · subst e
        have := a1 z hz
        omega
      · exact hz'
    · intro hz
      rcases List.mem_cons.mp ((h z).mpr (List.mem_cons_of_mem _ hz)) with e | hz'
      · subst e
        have := b1 z hz
        omega
      · exact hz'
theorem lot_filter {n : Int} {s : List Int} (h : lotOk n s) : (ixs n.toNat).filter (fun k => decide (k ∈ s)) = s := by
  refine inc_eq _ _ ((ixs_inc _).filter _) h.2.2 fun x => ?_
  rw [List.mem_filter, mem_ixs, decide_eq_true_eq]
  constructor
  · exact fun z => z.2
  · intro hx
    have := h.2.1 x hx
    exact ⟨by omega, hx⟩
/-- a sum over a list where p holds -/
def psum (p : Int → Bool) (f : Int → Int) : List Int → Int
  | [] => 0
  | x :: xs => (if p x = true then f x else 0) + psum p f xs
theorem psum_filter (p : Int → Bool) (f : Int → Int) : ∀ l : List Int, psum p f l = ((l.filter p).map f).sum
  | [] => rfl
  | x :: xs => by
    unfold psum
    rw [psum_filter p f xs, List.filter_cons]
    cases p x <;> simp
theorem ssum_psum {n : Int} {c s : List Int} (h : lotOk n s) : ssum c s = psum (fun k => decide (k ∈ s)) (fun i => c.getD i.toNat 0) (ixs n.toNat) := by
  rw [psum_filter, lot_filter h]
  rfl
theorem len_psum {n : Int} {s : List Int} (h : lotOk n s) : (s.length : Int) = psum (fun k => decide (k ∈ s)) (fun _ => 1) (ixs n.toNat) := by
  rw [psum_filter, lot_filter h]
  clear h
  induction s with
  | nil => rfl
  | cons x xs ih =>
    rw [List.map_cons, List.sum_cons, ← ih, List.length_cons]
    omega
/-! ### how often -/
def deg (ss : List (List Int)) (k : Int) : Nat := (ss.filter fun s => decide (k ∈ s)).length
theorem deg_cons (s : List Int) (ss : List (List Int)) (k : Int) : deg (s :: ss) k = (if k ∈ s then 1 else 0) + deg ss k := by
  unfold deg
  rw [List.filter_cons]
  by_cases h : k ∈ s
  · simp [h]; omega
  · simp [h]
def isum (f : Int → Int) : List Int → Int
  | [] => 0
  | x :: xs => f x + isum f xs
theorem isum_add (f g : Int → Int) : ∀ l, isum (fun x => f x + g x) l = isum f l + isum g l
  | [] => rfl
  | x :: xs => by
    unfold isum
    rw [isum_add f g xs]
    omega
theorem isum_le {f : Int → Int} {t : Int} : ∀ {l : List Int}, (∀ x ∈ l, f x ≤ t) → isum f l ≤ t * l.length
  | [], _ => by simp [isum]
  | x :: xs, h => by
    have h1 := h x List.mem_cons_self
    have h2 := isum_le (f := f) (t := t) (l := xs) fun y hy => h y (List.mem_cons_of_mem _ hy)
    unfold isum
    rw [List.length_cons, Int.natCast_add, Int.mul_add]
    omega
theorem isum_psum (p : Int → Bool) : ∀ l, psum p (fun _ => 1) l = isum (fun k => if p k = true then 1 else 0) l
  | [] => rfl
  | x :: xs => by
    unfold psum isum
    rw [isum_psum p xs]
theorem count_two {n : Int} : ∀ {ss : List (List Int)}, (∀ s ∈ ss, lotOk n s) → (ss.map fun s => (s.length : Int)).sum = isum (fun k => (deg ss k : Int)) (ixs n.toNat)
  | [], _ => by
    have : ∀ l, isum (fun k => (deg [] k : Int)) l = 0 := by
      intro l
      induction l with
      | nil => rfl
      | cons x xs ih =>
        unfold isum
        rw [ih]
        rfl
    rw [this]
    rfl
  | s :: ss, h => by
    have h1 := h s List.mem_cons_self
    have h2 := count_two (ss := ss) fun y hy => h y (List.mem_cons_of_mem _ hy)
    rw [List.map_cons, List.sum_cons, h2, len_psum h1, isum_psum, ← isum_add]
    congr 1
    funext k
    rw [deg_cons]
    by_cases hk : k ∈ s
    · simp [hk]
    · simp [hk]
/-! ### three sets -/
abbrev Ty := Bool × Bool × Bool
def flip (x : Ty) (f : Ty → Int) : Ty → Int := fun y => if y = x then -f y else f y
def col : List Ty → (Ty → Int) → List Int
  | [], _ => []
  | x :: r, f => f x :: col r (flip x f)
def fend : List Ty → (Ty → Int) → Ty → Int
  | [], f => f
  | x :: r, f => fend r (flip x f)
def tot (p : Ty → Bool) (f : Ty → Int) : Int :=
  (if p (false, false, false) then f (false, false, false) else 0) + (if p (false, false, true) then f (false, false, true) else 0) + (if p (false, true, false) then f (false, true, false) else 0) + (if p (false, true, true) then f (false, true, true) else 0) +
  (if p (true, false, false) then f (true, false, false) else 0) + (if p (true, false, true) then f (true, false, true) else 0) + (if p (true, true, false) then f (true, true, false) else 0) + (if p (true, true, true) then f (true, true, true) else 0)
def tsum (p : Ty → Bool) : List Ty → List Int → Int
  | x :: r, c :: cs => (if p x then c else 0) + tsum p r cs
  | _, _ => 0
theorem tot_flip (p : Ty → Bool) (x : Ty) (f : Ty → Int) : tot p (flip x f) = tot p f - 2 * (if p x then f x else 0) := by
  obtain ⟨a, b, c⟩ := x
  unfold tot flip
  cases a <;> cases b <;> cases c <;> simp <;> (repeat' split) <;> omega
theorem col_tot (p : Ty → Bool) : ∀ (l : List Ty) (f : Ty → Int), 2 * tsum p l (col l f) = tot p f - tot p (fend l f)
  | [], f => by simp [tsum, fend]
  | x :: r, f => by
    have h := col_tot p r (flip x f)
    rw [tot_flip] at h
    show 2 * ((if p x then f x else 0) + tsum p r (col r (flip x f))) = tot p f - tot p (fend r (flip x f))
    omega
theorem fend_pm : ∀ (l : List Ty) (f : Ty → Int) (y : Ty), fend l f y = f y ∨ fend l f y = - f y
  | [], f, y => .inl rfl
  | x :: r, f, y => by
    have h := fend_pm r (flip x f) y
    show fend r (flip x f) y = _ ∨ fend r (flip x f) y = _
    unfold flip at h ⊢
    by_cases e : y = x
    · rw [if_pos e] at h
      omega
    · rw [if_neg e] at h
      exact h
theorem fend_out : ∀ (l : List Ty) (f : Ty → Int) (y : Ty), y ∉ l → fend l f y = f y
  | [], f, y, _ => rfl
  | x :: r, f, y, h => by
    have h1 := fend_out r (flip x f) y fun z => h (List.mem_cons_of_mem _ z)
    show fend r (flip x f) y = _
    rw [h1]
    unfold flip
    rw [if_neg (fun z => h (by rw [z]; exact List.mem_cons_self))]
theorem col_len : ∀ (l : List Ty) (f : Ty → Int), (col l f).length = l.length
  | [], _ => rfl
  | x :: r, f => by
    show (col r _).length + 1 = _
    rw [col_len]
    rfl
theorem col_pm : ∀ (l : List Ty) (f : Ty → Int), (∀ y, f y = -1 ∨ f y = 1) → ∀ x ∈ col l f, x = -1 ∨ x = 1
  | [], _, _, x, hx => by cases hx
  | z :: r, f, h, x, hx => by
    rcases List.mem_cons.mp hx with rfl | hx
    · exact h z
    · refine col_pm r (flip z f) (fun y => ?_) x hx
      have := h y
      unfold flip
      split <;> omega
def sg : Ty → Int := fun y => if y = (true, true, true) then -1 else 1
theorem sg_pm (y : Ty) : sg y = -1 ∨ sg y = 1 := by
  unfold sg; split <;> omega
def b1 : Ty → Bool := fun y => y.1
def b2 : Ty → Bool := fun y => y.2.1
def b3 : Ty → Bool := fun y => y.2.2
theorem three (l : List Ty) (p : Ty → Bool) (hp : p = b1 ∨ p = b2 ∨ p = b3) : -3 ≤ tsum p l (col l sg) ∧ tsum p l (col l sg) ≤ 3 := by
  have h := col_tot p l sg
  have e1 := fend_pm l sg (false, false, true)
  have e2 := fend_pm l sg (false, true, false)
  have e3 := fend_pm l sg (false, true, true)
  have e4 := fend_pm l sg (true, false, false)
  have e5 := fend_pm l sg (true, false, true)
  have e6 := fend_pm l sg (true, true, false)
  have e7 := fend_pm l sg (true, true, true)
  rcases hp with rfl | rfl | rfl <;> simp [tot, b1, b2, b3, sg] at * <;> omega
/-- no place of two sets -/
theorem single (l : List Ty) (p : Ty → Bool) (hp : p = b1 ∨ p = b2 ∨ p = b3) (h2 : (false, true, true) ∉ l ∧ (true, false, true) ∉ l ∧ (true, true, false) ∉ l ∧ (true, true, true) ∉ l) : -1 ≤ tsum p l (col l sg) ∧ tsum p l (col l sg) ≤ 1 := by
  have h := col_tot p l sg
  have e1 := fend_pm l sg (false, false, true)
  have e2 := fend_pm l sg (false, true, false)
  have e3 := fend_out l sg _ h2.1
  have e4 := fend_pm l sg (true, false, false)
  have e5 := fend_out l sg _ h2.2.1
  have e6 := fend_out l sg _ h2.2.2.1
  have e7 := fend_out l sg _ h2.2.2.2
  rcases hp with rfl | rfl | rfl <;> simp [tot, b1, b2, b3, sg] at * <;> omega
theorem tsum_psum (q : Int → Bool) (p : Ty → Bool) (ty : Int → Ty) (hq : ∀ k, p (ty k) = q k) : ∀ (m : Nat) (lo : Nat) (cs : List Int) (pre : List Int), pre.length = lo → cs.length = m →
    tsum p (((List.range' lo m).map fun i : Nat => (i : Int)).map ty) cs = psum q (fun i => (pre ++ cs).getD i.toNat 0) ((List.range' lo m).map fun i : Nat => (i : Int))
  | 0, lo, cs, pre, _, _ => rfl
  | m + 1, lo, [], pre, _, h => by cases h
  | m + 1, lo, c :: cs, pre, h1, h2 => by
    have ih := tsum_psum q p ty hq m (lo + 1) cs (pre ++ [c]) (by simp [h1]) (by simpa using h2)
    rw [List.append_assoc] at ih
    rw [List.range'_succ, List.map_cons, List.map_cons]
    show (if p (ty (lo : Int)) = true then c else 0) + tsum p _ cs = (if q (lo : Int) = true then (pre ++ c :: cs).getD ((lo : Int)).toNat 0 else 0) + _
    rw [ih, hq]
    have e : (pre ++ c :: cs).getD ((lo : Int)).toNat 0 = c := by
      rw [Int.toNat_natCast, ← h1]
      simp [List.getD]
    rw [e]
    rfl
theorem abs_le_len {c s : List Int} (hc : ∀ x ∈ c, x = -1 ∨ x = 1) : -(s.length : Int) ≤ ssum c s ∧ ssum c s ≤ s.length := by
  unfold ssum
  induction s with
  | nil => simp
  | cons x xs ih =>
    have h : -1 ≤ c.getD x.toNat 0 ∧ c.getD x.toNat 0 ≤ 1 := by
      by_cases hx : x.toNat < c.length
      · have e : c.getD x.toNat 0 = c[x.toNat] := by simp [List.getD, List.getElem?_eq_getElem hx]
        rw [e]
        have := hc _ (List.getElem_mem hx)
        omega
      · have e : c.getD x.toNat 0 = 0 := by simp [List.getD, List.getElem?_eq_none (Nat.le_of_not_lt hx)]
        rw [e]
        omega
    rw [List.map_cons, List.sum_cons, List.length_cons]
    omega
def often (n : Nat) (ss : List (List Int)) : Int := maxL ((List.range n).map fun k : Nat => (deg ss (k : Int) : Int))
theorem deg_sub {ss tt : List (List Int)} (h : tt.Sublist ss) (k : Int) : deg tt k ≤ deg ss k := (h.filter _).length_le
theorem isum_mono {f g : Int → Int} : ∀ {l : List Int}, (∀ x ∈ l, f x ≤ g x) → isum f l ≤ isum g l
  | [], _ => Int.le_refl _
  | x :: xs, h => by
    have h1 := h x List.mem_cons_self
    have h2 := isum_mono (f := f) (g := g) (l := xs) fun y hy => h y (List.mem_cons_of_mem _ hy)
    unfold isum
    omega
theorem sum_ge {t : Int} : ∀ {l : List (List Int)}, (∀ s ∈ l, t ≤ s.length) → t * l.length ≤ (l.map fun s => (s.length : Int)).sum
  | [], _ => by simp
  | x :: xs, h => by
    have h1 := h x List.mem_cons_self
    have h2 := sum_ge (t := t) (l := xs) fun y hy => h y (List.mem_cons_of_mem _ hy)
    rw [List.map_cons, List.sum_cons, List.length_cons, Int.natCast_add, Int.mul_add]
    omega
/-- three sets, no more: one colouring of all -/
theorem col_three {n : Int} (A B C : List Int) (hA : A = [] ∨ lotOk n A) (hB : B = [] ∨ lotOk n B) (hC : C = [] ∨ lotOk n C) :
    ∃ c ∈ rows n.toNat, ∀ s, s = A ∨ s = B ∨ s = C → (-3 ≤ ssum c s ∧ ssum c s ≤ 3) ∧
      ((∀ k : Int, ¬ (k ∈ A ∧ k ∈ B) ∧ ¬ (k ∈ A ∧ k ∈ C) ∧ ¬ (k ∈ B ∧ k ∈ C)) → -1 ≤ ssum c s ∧ ssum c s ≤ 1) := by
  let ty : Int → Ty := fun k => (decide (k ∈ A), decide (k ∈ B), decide (k ∈ C))
  let l := (ixs n.toNat).map ty
  have hlen : (col l sg).length = n.toNat := by
    rw [col_len, List.length_map]
    unfold ixs
    rw [List.length_map, List.length_range]
  refine ⟨col l sg, (rows_ok _ _).mpr ⟨hlen, col_pm _ _ sg_pm⟩, fun s hs => ?_⟩
  have conv : ∀ (D : List Int) (p : Ty → Bool), (∀ k, p (ty k) = decide (k ∈ D)) → (D = [] ∨ lotOk n D) → ssum (col l sg) D = tsum p l (col l sg) := by
    intro D p hp hD
    have e := tsum_psum (fun k => decide (k ∈ D)) p ty hp n.toNat 0 (col l sg) [] rfl hlen
    rw [← List.range_eq_range'] at e
    have e : tsum p l (col l sg) = psum (fun k => decide (k ∈ D)) (fun i => (col l sg).getD i.toNat 0) (ixs n.toNat) := e
    rw [e]
    rcases hD with rfl | hD
    · rw [psum_filter, List.filter_eq_nil_iff.mpr (by simp)]
      rfl
    · exact ssum_psum hD
  have fin : ∀ (D : List Int) (p : Ty → Bool), (p = b1 ∨ p = b2 ∨ p = b3) → (∀ k, p (ty k) = decide (k ∈ D)) → (D = [] ∨ lotOk n D) → (-3 ≤ ssum (col l sg) D ∧ ssum (col l sg) D ≤ 3) ∧
      ((∀ k : Int, ¬ (k ∈ A ∧ k ∈ B) ∧ ¬ (k ∈ A ∧ k ∈ C) ∧ ¬ (k ∈ B ∧ k ∈ C)) → -1 ≤ ssum (col l sg) D ∧ ssum (col l sg) D ≤ 1) := by
    intro D p hb hp hD
    rw [conv D p hp hD]
    refine ⟨three l p hb, fun hk => single l p hb ?_⟩
    refine ⟨fun z => ?_, fun z => ?_, fun z => ?_, fun z => ?_⟩ <;>
    · obtain ⟨k, _, e⟩ := List.mem_map.mp z
      have e1 := congrArg Prod.fst e
      have e2 := congrArg (fun q => q.2.1) e
      have e3 := congrArg (fun q => q.2.2) e
      have h := hk k
      simp [ty] at e1 e2 e3
      simp_all
  rcases hs with rfl | rfl | rfl
  · exact fin _ b1 (.inl rfl) (fun k => rfl) hA
  · exact fin _ b2 (.inr (.inl rfl)) (fun k => rfl) hB
  · exact fin _ b3 (.inr (.inr rfl)) (fun k => rfl) hC
theorem iabs_le {x t : Int} (h : -t ≤ x ∧ x ≤ t) : iabs x ≤ t := by
  unfold iabs
  split <;> omega
theorem beck {n : Int} {ss : List (List Int)} (F : FamOk n ss) : least n.toNat ss < 2 * often n.toNat ss := by
  have hne : (List.range n.toNat).map (fun k : Nat => (deg ss (k : Int) : Int)) ≠ [] := by
    have := F.lo
    simp
    omega
  obtain ⟨m1, m2⟩ := maxL_spec hne
  have ht : ∀ k ∈ ixs n.toNat, (deg ss k : Int) ≤ often n.toNat ss := by
    intro k hk
    have := mem_ixs.mp hk
    refine m2 _ (List.mem_map.mpr ⟨k.toNat, List.mem_range.mpr (by omega), ?_⟩)
    rw [Int.toNat_of_nonneg this.1]
  generalize often n.toNat ss = t at ht
  have hlo := F.lo
  have hhi := F.hi
  have t1 : 1 ≤ t := by
    obtain ⟨s, hs⟩ := List.exists_mem_of_ne_nil _ F.ne
    have hl := F.lot s hs
    obtain ⟨x, hx⟩ := List.exists_mem_of_ne_nil _ hl.1
    have hb := hl.2.1 x hx
    have h1 := ht x (mem_ixs.mpr (by omega))
    have h2 : 0 < deg ss x := by
      unfold deg
      exact List.length_pos_of_mem (List.mem_filter.mpr ⟨hs, by simpa using hx⟩)
    omega
  let big := ss.filter fun s => decide (2 * t ≤ s.length)
  have hsub : big.Sublist ss := List.filter_sublist
  have hbl : ∀ s ∈ big, lotOk n s := fun s hs => F.lot s (hsub.subset hs)
  have hdeg : ∀ k ∈ ixs n.toNat, (deg big k : Int) ≤ t := fun k hk => by
    have := ht k hk
    have := deg_sub hsub k
    omega
  have h3 : big.length ≤ 3 := by
    have e1 := count_two hbl
    have e2 := isum_le hdeg
    have e3 := sum_ge (t := 2 * t) (l := big) fun s hs => by simpa using (List.mem_filter.mp hs).2
    have e4 : (ixs n.toNat).length = n.toNat := by
      unfold ixs
      rw [List.length_map, List.length_range]
    rw [e4] at e2
    have e5 : t * (n.toNat : Int) ≤ t * 7 := Int.mul_le_mul_of_nonneg_left (by omega) (by omega)
    apply Nat.le_of_not_lt
    intro h4
    have e6 : 2 * t * 4 ≤ 2 * t * (big.length : Int) := Int.mul_le_mul_of_nonneg_left (by omega) (by omega)
    omega
  have key : ∃ c ∈ rows n.toNat, ∀ s ∈ big, -(2 * t - 1) ≤ ssum c s ∧ ssum c s ≤ 2 * t - 1 := by
    have gen : ∀ A B C : List Int, (A = [] ∨ lotOk n A) → (B = [] ∨ lotOk n B) → (C = [] ∨ lotOk n C) → (∀ s ∈ big, s = A ∨ s = B ∨ s = C) → (t = 1 → ∀ k : Int, ¬ (k ∈ A ∧ k ∈ B) ∧ ¬ (k ∈ A ∧ k ∈ C) ∧ ¬ (k ∈ B ∧ k ∈ C)) →
        ∃ c ∈ rows n.toNat, ∀ s ∈ big, -(2 * t - 1) ≤ ssum c s ∧ ssum c s ≤ 2 * t - 1 := by
      intro A B C hA hB hC hm h1
      obtain ⟨c, hc, hs⟩ := col_three A B C hA hB hC
      refine ⟨c, hc, fun s hsb => ?_⟩
      obtain ⟨g1, g2⟩ := hs s (hm s hsb)
      by_cases e : t = 1
      · have := g2 (h1 e)
        omega
      · omega
    have hin : ∀ (D : List Int) (k : Int), lotOk n D → k ∈ D → k ∈ ixs n.toNat := fun D k hD hk => by
      have := hD.2.1 k hk
      exact mem_ixs.mpr (by omega)
    generalize hB : big = bg at h3 hbl hdeg gen
    match bg, h3 with
    | [], _ => exact gen [] [] [] (.inl rfl) (.inl rfl) (.inl rfl) (fun s hs => by cases hs) fun _ k => by simp
    | [A], _ => exact gen A [] [] (.inr (hbl A (by simp))) (.inl rfl) (.inl rfl) (fun s hs => by simp at hs; exact .inl hs) fun _ k => by simp
    | [A, B], _ =>
      refine gen A B [] (.inr (hbl A (by simp))) (.inr (hbl B (by simp))) (.inl rfl) (fun s hs => by simp at hs; rcases hs with h | h; exact .inl h; exact .inr (.inl h)) fun e k => ?_
      refine ⟨fun z => ?_, by simp, by simp⟩
      have := hdeg k (hin A k (hbl A (by simp)) z.1)
      rw [deg_cons, deg_cons, if_pos z.1, if_pos z.2] at this
      omega
    | [A, B, C], _ =>
      refine gen A B C (.inr (hbl A (by simp))) (.inr (hbl B (by simp))) (.inr (hbl C (by simp))) (fun s hs => by simp at hs; exact hs) fun e k => ?_
      refine ⟨fun z => ?_, fun z => ?_, fun z => ?_⟩
      · have := hdeg k (hin A k (hbl A (by simp)) z.1)
        rw [deg_cons, deg_cons, if_pos z.1, if_pos z.2] at this
        omega
      · have := hdeg k (hin A k (hbl A (by simp)) z.1)
        rw [deg_cons, deg_cons, deg_cons, if_pos z.1, if_pos z.2] at this
        omega
      · have := hdeg k (hin B k (hbl B (by simp)) z.1)
        rw [deg_cons, deg_cons, deg_cons, if_pos z.1, if_pos z.2] at this
        omega
  obtain ⟨c, hc, hk⟩ := key
  have hpm := ((rows_ok _ c).mp hc).2
  have hu : unev c ss ≤ 2 * t - 1 := by
    obtain ⟨u1, _⟩ := maxL_spec (ns := ss.map fun s => iabs (ssum c s)) (by simpa using F.ne)
    obtain ⟨s, hs, e⟩ := List.mem_map.mp u1
    show maxL _ ≤ _
    rw [← e]
    refine iabs_le ?_
    by_cases hb : 2 * t ≤ s.length
    · exact hk s (List.mem_filter.mpr ⟨hs, by simpa using hb⟩)
    · have := abs_le_len (s := s) hpm
      omega
  have hl : least n.toNat ss ≤ unev c ss := (minL_spec (ns := (rows n.toNat).map fun h => unev h ss) (by simpa using rows_ne _)).2 _ (List.mem_map.mpr ⟨c, hc, rfl⟩)
  omega
theorem ssum_par {n : Int} {c s : List Int} (hc : (c.length : Int) = n ∧ ∀ x ∈ c, x = -1 ∨ x = 1) (hs : ∀ x ∈ s, 0 ≤ x ∧ x ≤ n - 1) : (ssum c s - s.length) % 2 = 0 := by
  unfold ssum
  induction s with
  | nil => rfl
  | cons x xs ih =>
    have h := hs x List.mem_cons_self
    have hx : x.toNat < c.length := by omega
    have e : c.getD x.toNat 0 = c[x.toNat] := by simp [List.getD, List.getElem?_eq_getElem hx]
    have hb := hc.2 _ (List.getElem_mem hx)
    have ih := ih fun y hy => hs y (List.mem_cons_of_mem _ hy)
    rw [List.map_cons, List.sum_cons, List.length_cons, e]
    omega
theorem least_par {n : Int} {ss : List (List Int)} (F : FamOk n ss) (h : (least n.toNat ss) % 2 ≠ 0) : ∃ s ∈ ss, (s.length : Int) % 2 = 1 := by
  have hlo := F.lo
  obtain ⟨m1, _⟩ := minL_spec (ns := (rows n.toNat).map fun h => unev h ss) (by simpa using rows_ne _)
  obtain ⟨c, hc, e⟩ := List.mem_map.mp m1
  obtain ⟨u1, _⟩ := maxL_spec (ns := ss.map fun s => iabs (ssum c s)) (by simpa using F.ne)
  obtain ⟨s, hs, e2⟩ := List.mem_map.mp u1
  have e3 : least n.toNat ss = iabs (ssum c s) := by
    show minL _ = _
    rw [← e]
    exact e2.symm
  rw [e3] at h
  have hp := (rows_ok _ c).mp hc
  have := ssum_par (n := n) (c := c) (s := s) ⟨by omega, hp.2⟩ (F.lot s hs).2.1
  refine ⟨s, hs, ?_⟩
  unfold iabs at h
  split at h <;> omega
end LC

set_option maxHeartbeats 0
namespace LC
open PySem PySem.Spec PyProof.Rows L2
/-! the defs of the text -/
def b_law_1 : LB :=
  (.cons (.set 6 (.call "_law_hues" (.cons (.var 0) (.cons (.var 1) (.cons (.var 3) .nil)))))
    (.cons (.ifs (.bop false (.cons (.cmp .IsNot (.call "is_colours" (.cons (.var 2) (.cons (.var 6) .nil))) (.cst (.bl true))) (.cons (.cmp .NotEq (.call "sums" (.cons (.var 2) (.cons (.var 6) .nil))) (.call "_law_sums" (.cons (.var 2) (.cons (.var 6) .nil)))) .nil))) (.cons (.ret (.cst (.bl false)))
    .nil) .nil)
    (.cons (.ifs (.cmp .NotEq (.call "uneven" (.cons (.var 2) (.cons (.var 6) .nil))) (.call "_law_uneven" (.cons (.var 2) (.cons (.var 6) .nil)))) (.cons (.ret (.cst (.bl false)))
    .nil) .nil)
    (.cons (.set 11 (.blt .tuple (.cons (.lc [12] (.of (.var 6)) (.nm 12) .none (.bin .Sub (.cst (.int 0)) (.var 12))) .nil)))
    (.cons (.ifs (.bop false (.cons (.cmp .NotEq (.call "uneven" (.cons (.var 2) (.cons (.var 11) .nil))) (.call "uneven" (.cons (.var 2) (.cons (.var 6) .nil)))) (.cons (.cmp .NotEq (.cmp .In (.var 11) (.var 8)) (.cmp .In (.var 6) (.var 8))) .nil))) (.cons (.ret (.cst (.bl false)))
    .nil) .nil)
    .nil)))))
def b_law : LB :=
  (.cons (.set 1 (.call "_law_town" (.cons (.var 0) .nil)))
    (.cons (.set 2 (.call "_law_family" (.cons (.var 0) (.cons (.var 1) (.cons (.cst (.int 7)) .nil)))))
    (.cons (.set 3 (.idx (.var 2) (.cst (.int 0))))
    (.cons (.set 4 (.call "_law_all" (.cons (.var 3) (.cons (.tup (.cons (.neg (.cst (.int 1))) (.cons (.cst (.int 1)) .nil))) .nil))))
    (.cons (.set 5 (.lc [6] (.of (.var 4)) (.nm 6) .none (.call "_law_uneven" (.cons (.var 2) (.cons (.var 6) .nil)))))
    (.cons (.set 7 (.blt .min (.cons (.var 5) .nil)))
    (.cons (.ifs (.cmp .NotEq (.call "least_uneven" (.cons (.var 2) .nil)) (.var 7)) (.cons (.ret (.cst (.bl false)))
    .nil) .nil)
    (.cons (.set 8 (.call "all_best" (.cons (.var 2) .nil)))
    (.cons (.ifs (.cmp .NotEq (.var 8) (.blt .tuple (.cons (.lc [9] (.rng (.cons (.blt .len (.cons (.var 4) .nil)) .nil)) (.nm 9) (.some (.cmp .Eq (.idx (.var 5) (.var 9)) (.var 7))) (.idx (.var 4) (.var 9))) .nil))) (.cons (.ret (.cst (.bl false)))
    .nil) .nil)
    (.cons (.for_ (.rng (.cons (.cst (.int 3)) .nil)) (.nm 10) b_law_1)
    (.cons (.set 13 (.blt .max (.cons (.lc [9] (.rng (.cons (.var 3) .nil)) (.nm 9) .none (.blt .len (.cons (.lc [12] (.of (.idx (.var 2) (.cst (.int 1)))) (.nm 12) (.some (.cmp .In (.var 9) (.var 12))) (.var 12)) .nil))) .nil)))
    (.cons (.ifs (.bop false (.cons (.cmp .GtE (.var 7) (.bin .Mult (.cst (.int 2)) (.var 13))) (.cons (.bop true (.cons (.cmp .NotEq (.bin .Mod (.var 7) (.cst (.int 2))) (.cst (.int 0))) (.cons (.cmp .Eq (.lc [12] (.of (.idx (.var 2) (.cst (.int 1)))) (.nm 12) (.some (.cmp .Eq (.bin .Mod (.blt .len (.cons (.var 12) .nil)) (.cst (.int 2))) (.cst (.int 1)))) (.var 12)) (.lst .nil)) .nil))) .nil))) (.cons (.ret (.cst (.bl false)))
    .nil) .nil)
    (.cons (.set 14 (.lst (.cons (.cst .non) (.cons (.tup .nil) (.cons (.bin .Add (.var 6) (.tup (.cons (.cst (.int 1)) .nil))) (.cons (.slc (.var 6) (.some (.cst (.int 1))) .none) (.cons (.blt .list (.cons (.var 6) .nil)) (.cons (.bin .Add (.tup (.cons (.cst (.int 0)) .nil)) (.slc (.var 6) (.some (.cst (.int 1))) .none)) (.cons (.bin .Mult (.tup (.cons (.cst (.bl true)) .nil)) (.var 3)) (.cons (.bin .Mult (.tup (.cons (.cst (.str "1")) .nil)) (.var 3)) .nil))))))))))
    (.cons (.ret (.cmp .Eq (.lc [15] (.of (.var 14)) (.nm 15) (.some (.call "is_colours" (.cons (.var 2) (.cons (.var 15) .nil)))) (.var 15)) (.lst .nil)))
    .nil))))))))))))))
def top (i : Nat) : Stmt := PySem.Challenge.pw_lotcolours_k20_whole_colours.main.body.getD i (.Pass ⟨0, 0, 0, 0⟩)
def tab : List En := [
  ⟨"is_between", ⟨3, 3, b_is_between⟩, ["value", "low", "high"], 5⟩,
  ⟨"is_lot", ⟨2, 4, b_is_lot⟩, ["things", "value", "one", "k"], 7⟩,
  ⟨"is_family", ⟨1, 5, b_is_family⟩, ["value", "things", "sets", "one", "k"], 8⟩,
  ⟨"check_family", ⟨1, 1, b_check_family⟩, ["value"], 9⟩,
  ⟨"are_colours", ⟨2, 3, b_are_colours⟩, ["family", "value", "one"], 11⟩,
  ⟨"is_colours", ⟨2, 2, b_is_colours⟩, ["family", "value"], 12⟩,
  ⟨"check_both", ⟨2, 2, b_check_both⟩, ["family", "colours"], 13⟩,
  ⟨"found_sums", ⟨2, 4, b_found_sums⟩, ["family", "colours", "thing", "one"], 14⟩,
  ⟨"found_uneven", ⟨2, 3, b_found_uneven⟩, ["family", "colours", "one"], 15⟩,
  ⟨"sums", ⟨2, 2, b_sums⟩, ["family", "colours"], 16⟩,
  ⟨"uneven", ⟨2, 2, b_uneven⟩, ["family", "colours"], 17⟩,
  ⟨"all_colours", ⟨1, 5, b_all_colours⟩, ["things", "rows", "thing", "row", "one"], 18⟩,
  ⟨"found_least", ⟨1, 2, b_found_least⟩, ["family", "colours"], 19⟩,
  ⟨"least_uneven", ⟨1, 1, b_least_uneven⟩, ["family"], 20⟩,
  ⟨"all_best", ⟨1, 3, b_all_best⟩, ["family", "least", "colours"], 21⟩,
  ⟨"_law_town", ⟨1, 1, b__law_town⟩, ["_law_script"], 23⟩,
  ⟨"_law_draw", ⟨3, 6, b__law_draw⟩, ["_law_script", "_law_town_here", "_law_limit", "_law_at", "_law_left", "_law_number"], 24⟩,
  ⟨"_law_family", ⟨3, 10, b__law_family⟩, ["_law_script", "_law_town_here", "_law_most", "_law_things", "_law_found", "_law_often", "_law_is_paired", "_law_turn", "_law_k", "_law_one"], 25⟩,
  ⟨"_law_all", ⟨2, 7, b__law_all⟩, ["_law_things", "_law_choices", "_law_rows", "_law_turn", "_law_longer", "_law_row", "_law_one"], 26⟩,
  ⟨"_law_sums", ⟨2, 4, b__law_sums⟩, ["_law_family_here", "_law_hues_here", "_law_k", "_law_one"], 27⟩,
  ⟨"_law_uneven", ⟨2, 3, b__law_uneven⟩, ["_law_family_here", "_law_hues_here", "_law_one"], 28⟩,
  ⟨"_law_hues", ⟨3, 4, b__law_hues⟩, ["_law_script", "_law_town_here", "_law_things", "_law_k"], 29⟩,
  ⟨"law", ⟨1, 16, b_law⟩, ["_law_script", "_law_town_here", "_law_family_here", "_law_things", "_law_some", "_law_sizes", "_law_hues_here", "_law_least", "_law_best", "_law_k", "_law_turn", "_law_opposite", "_law_one", "_law_often", "_law_bads", "_law_bad"], 30⟩]
def frees : List Str := ["isinstance", "len", "all", "sum", "max", "min", "sorted", "tuple", "list", "int", "abs", "range", "bool"]
def excs : List Str := ["InvalidFamily", "InvalidColours"]
theorem chk : chkAll top tab frees excs = true := by decide +kernel

end LC

set_option maxHeartbeats 4000000
/-! P20: law k20. -/
namespace LC
open PySem PySem.Spec PyProof.Rows L2
theorem has : HasJ (fsOf tab) where
  bet := by rfl
  lot := by rfl
  fam := by rfl
  chk := by rfl
  sums := by rfl
  unev := by rfl
  allc := by rfl
  flst := by rfl
  are := by rfl
  isc := by rfl
  both := by rfl
  smz := by rfl
  une := by rfl
  lun := by rfl
  bst := by rfl
theorem drw : DrawOk (fsOf tab) := by rfl
section
variable {fs : Str → Option Fn} {k : Nat} {S : Store} {n : Int}
theorem r_law_all (h : fs "_law_all" = some ⟨2, 7, b__law_all⟩) (h0 : 0 ≤ n) (h7 : n ≤ 7) : runF fs (k + 1) "_law_all" [.int n, tI [-1, 1]] S = .ok (.lst ((rows n.toNat).map tI)) S := by
  rw [rf_eq h]
  have h1 : Wp (exS (runF fs k) (.for_ (.rng (.cons (.var 0) .nil)) (.nm 3) (.cons (.set 4 (.lst .nil))
    (.cons (.for_ (.of (.var 2)) (.nm 5) (.cons (.set 4 (.bin .Add (.var 4) (.lc [6] (.of (.var 1)) (.nm 6) .none (.bin .Add (.var 5) (.tup (.cons (.var 6) .nil))))))
    .nil))
    (.cons (.set 2 (.var 4))
    .nil)))) [some (.int n), some (tI [-1, 1]), some (.lst [.tup []]), none, none, none, none] S) (fun f S' => S' = S ∧ ∃ t1 t2 t3 t4, f = .nx [some (.int n), some (tI [-1, 1]), some (.lst ((rows n.toNat).map tI)), t1, t2, t3, t4]) := by
    rw [s_for]
    refine wp_for (xs := (List.range n.toNat).map fun i : Nat => D.int (i : Int)) (S1 := S) (by simp only [e_var, e_cst, e_ty, e_gfn, e_bin, e_cmp, e_chn, e_neg, e_nt, e_one, e_and, e_or, e_ite, e_tup, e_lst, e_idx, e_slc, o_none, o_some, e_call, e_blt, e_isi, a_nil, a_cons, i_of, i_rng, c_none, c_some, s_set, s_setLc, s_asg, s_par, s_stI, s_ex, s_ret, s_if, s_rai, s_pass, b_nil, b_cons, M.opt_some, R.bind_ok, getE_0, getE_s, List.map_cons, List.map_nil, List.cons_append, List.nil_append, List.length_cons, List.length_nil, List.replicate_succ, List.replicate_zero, Nat.reduceSub, Nat.reduceAdd, List.set_cons_zero, List.set_cons_succ, Option.map_some, BT.nm, wipeE, seqK_n, seqK_r, andK_t, andK_f, orK_f, orK_t, iteK_t, iteK_f, asgK_nm, asgK_t2, asgK_t3, endF_n, endF_r, slI_i, toBl_b, vw_i, vw_b, vw_t, vw_tI, vw_tT, vw_l, vw_s, vw_n, vw_ty, src_t, src_tI, src_tT, src_l, bin_add, bin_sub, neg_i, not_b, R.bind_assoc]; rw [rng_1 (by omega), rangeD_n]; simp only [e_var, e_cst, e_ty, e_gfn, e_bin, e_cmp, e_chn, e_neg, e_nt, e_one, e_and, e_or, e_ite, e_tup, e_lst, e_idx, e_slc, o_none, o_some, e_call, e_blt, e_isi, a_nil, a_cons, i_of, i_rng, c_none, c_some, s_set, s_setLc, s_asg, s_par, s_stI, s_ex, s_ret, s_if, s_rai, s_pass, b_nil, b_cons, M.opt_some, R.bind_ok, getE_0, getE_s, List.map_cons, List.map_nil, List.cons_append, List.nil_append, List.length_cons, List.length_nil, List.replicate_succ, List.replicate_zero, Nat.reduceSub, Nat.reduceAdd, List.set_cons_zero, List.set_cons_succ, Option.map_some, BT.nm, wipeE, seqK_n, seqK_r, andK_t, andK_f, orK_f, orK_t, iteK_t, iteK_f, asgK_nm, asgK_t2, asgK_t3, endF_n, endF_r, slI_i, toBl_b, vw_i, vw_b, vw_t, vw_tI, vw_tT, vw_l, vw_s, vw_n, vw_ty, src_t, src_tI, src_tT, src_l, bin_add, bin_sub, neg_i, not_b, R.bind_assoc]) (fun i ρ S' => S' = S ∧ ∃ t1 t2 t3 t4, ρ = [some (.int n), some (tI [-1, 1]), some (.lst ((rows i).map tI)), t1, t2, t3, t4]) _ ⟨rfl, none, none, none, none, rfl⟩ (fun i d ρ S' hx hI => ?_) (fun ρ S' hI => ?_)
    · obtain ⟨rfl, t1, t2, t3, t4, rfl⟩ := hI
      refine ⟨_, rfl, ?_⟩
      have hi : i < n.toNat := by
        have := (List.getElem?_eq_some_iff.mp hx).1
        simpa using this
      have h2 : Wp (exS (runF fs k) (.for_ (.of (.var 2)) (.nm 5) (.cons (.set 4 (.bin .Add (.var 4) (.lc [6] (.of (.var 1)) (.nm 6) .none (.bin .Add (.var 5) (.tup (.cons (.var 6) .nil))))))
    .nil)) [some (.int n), some (tI [-1, 1]), some (.lst ((rows i).map tI)), some d, some (.lst []), t3, t4] S') (fun f S2 => S2 = S' ∧ ∃ t3 t4, f = .nx [some (.int n), some (tI [-1, 1]), some (.lst ((rows i).map tI)), some d, some (.lst ((rows (i + 1)).map tI)), t3, t4]) := by
        rw [s_for]
        refine wp_for (xs := (rows i).map tI) (S1 := S') (by simp only [e_var, e_cst, e_ty, e_gfn, e_bin, e_cmp, e_chn, e_neg, e_nt, e_one, e_and, e_or, e_ite, e_tup, e_lst, e_idx, e_slc, o_none, o_some, e_call, e_blt, e_isi, a_nil, a_cons, i_of, i_rng, c_none, c_some, s_set, s_setLc, s_asg, s_par, s_stI, s_ex, s_ret, s_if, s_rai, s_pass, b_nil, b_cons, M.opt_some, R.bind_ok, getE_0, getE_s, List.map_cons, List.map_nil, List.cons_append, List.nil_append, List.length_cons, List.length_nil, List.replicate_succ, List.replicate_zero, Nat.reduceSub, Nat.reduceAdd, List.set_cons_zero, List.set_cons_succ, Option.map_some, BT.nm, wipeE, seqK_n, seqK_r, andK_t, andK_f, orK_f, orK_t, iteK_t, iteK_f, asgK_nm, asgK_t2, asgK_t3, endF_n, endF_r, slI_i, toBl_b, vw_i, vw_b, vw_t, vw_tI, vw_tT, vw_l, vw_s, vw_n, vw_ty, src_t, src_tI, src_tT, src_l, bin_add, bin_sub, neg_i, not_b, R.bind_assoc]) (fun j ρ S2 => S2 = S' ∧ ∃ t3 t4, ρ = [some (.int n), some (tI [-1, 1]), some (.lst ((rows i).map tI)), some d, some (.lst ((((rows i).take j).flatMap fun r => [r ++ [-1], r ++ [1]]).map tI)), t3, t4]) _ ⟨rfl, t3, t4, rfl⟩ (fun j d2 ρ S2 hx2 hI => ?_) (fun ρ S2 hI => ?_)
        · obtain ⟨rfl, t3, t4, rfl⟩ := hI
          refine ⟨_, rfl, ?_⟩
          rw [List.getElem?_map] at hx2
          cases q : (rows i)[j]? with
          | none => rw [q] at hx2; cases hx2
          | some r =>
            rw [q] at hx2
            cases hx2
            have hr := List.mem_of_getElem? q
            have hl := ((rows_ok i r).mp hr).1
            simp only [e_var, e_cst, e_ty, e_gfn, e_bin, e_cmp, e_chn, e_neg, e_nt, e_one, e_and, e_or, e_ite, e_tup, e_lst, e_idx, e_slc, o_none, o_some, e_call, e_blt, e_isi, a_nil, a_cons, i_of, i_rng, c_none, c_some, s_set, s_setLc, s_asg, s_par, s_stI, s_ex, s_ret, s_if, s_rai, s_pass, b_nil, b_cons, M.opt_some, R.bind_ok, getE_0, getE_s, List.map_cons, List.map_nil, List.cons_append, List.nil_append, List.length_cons, List.length_nil, List.replicate_succ, List.replicate_zero, Nat.reduceSub, Nat.reduceAdd, List.set_cons_zero, List.set_cons_succ, Option.map_some, BT.nm, wipeE, seqK_n, seqK_r, andK_t, andK_f, orK_f, orK_t, iteK_t, iteK_f, asgK_nm, asgK_t2, asgK_t3, endF_n, endF_r, slI_i, toBl_b, vw_i, vw_b, vw_t, vw_tI, vw_tT, vw_l, vw_s, vw_n, vw_ty, src_t, src_tI, src_tT, src_l, bin_add, bin_sub, neg_i, not_b, R.bind_assoc]
            rw [lcE_map [(-1 : Int), 1] D.int (fun x => tI (r ++ [x])) (by simp only [e_var, e_cst, e_ty, e_gfn, e_bin, e_cmp, e_chn, e_neg, e_nt, e_one, e_and, e_or, e_ite, e_tup, e_lst, e_idx, e_slc, o_none, o_some, e_call, e_blt, e_isi, a_nil, a_cons, i_of, i_rng, c_none, c_some, s_set, s_setLc, s_asg, s_par, s_stI, s_ex, s_ret, s_if, s_rai, s_pass, b_nil, b_cons, M.opt_some, R.bind_ok, getE_0, getE_s, List.map_cons, List.map_nil, List.cons_append, List.nil_append, List.length_cons, List.length_nil, List.replicate_succ, List.replicate_zero, Nat.reduceSub, Nat.reduceAdd, List.set_cons_zero, List.set_cons_succ, Option.map_some, BT.nm, wipeE, seqK_n, seqK_r, andK_t, andK_f, orK_f, orK_t, iteK_t, iteK_f, asgK_nm, asgK_t2, asgK_t3, endF_n, endF_r, slI_i, toBl_b, vw_i, vw_b, vw_t, vw_tI, vw_tT, vw_l, vw_s, vw_n, vw_ty, src_t, src_tI, src_tT, src_l, bin_add, bin_sub, neg_i, not_b, R.bind_assoc]) (fun x hx => ⟨_, rfl, by
              have hb : (r.map D.int).length + [D.int x].length ≤ line := by
                rw [List.length_map]
                show r.length + 1 ≤ 16777216
                omega
              simp only [e_var, e_cst, e_ty, e_gfn, e_bin, e_cmp, e_chn, e_neg, e_nt, e_one, e_and, e_or, e_ite, e_tup, e_lst, e_idx, e_slc, o_none, o_some, e_call, e_blt, e_isi, a_nil, a_cons, i_of, i_rng, c_none, c_some, s_set, s_setLc, s_asg, s_par, s_stI, s_ex, s_ret, s_if, s_rai, s_pass, b_nil, b_cons, M.opt_some, R.bind_ok, getE_0, getE_s, List.map_cons, List.map_nil, List.cons_append, List.nil_append, List.length_cons, List.length_nil, List.replicate_succ, List.replicate_zero, Nat.reduceSub, Nat.reduceAdd, List.set_cons_zero, List.set_cons_succ, Option.map_some, BT.nm, wipeE, seqK_n, seqK_r, andK_t, andK_f, orK_f, orK_t, iteK_t, iteK_f, asgK_nm, asgK_t2, asgK_t3, endF_n, endF_r, slI_i, toBl_b, vw_i, vw_b, vw_t, vw_tI, vw_tT, vw_l, vw_s, vw_n, vw_ty, src_t, src_tI, src_tT, src_l, bin_add, bin_sub, neg_i, not_b, R.bind_assoc, tI]
              rw [bin_addT hb]
              simp [tI]⟩)]
            simp only [e_var, e_cst, e_ty, e_gfn, e_bin, e_cmp, e_chn, e_neg, e_nt, e_one, e_and, e_or, e_ite, e_tup, e_lst, e_idx, e_slc, o_none, o_some, e_call, e_blt, e_isi, a_nil, a_cons, i_of, i_rng, c_none, c_some, s_set, s_setLc, s_asg, s_par, s_stI, s_ex, s_ret, s_if, s_rai, s_pass, b_nil, b_cons, M.opt_some, R.bind_ok, getE_0, getE_s, List.map_cons, List.map_nil, List.cons_append, List.nil_append, List.length_cons, List.length_nil, List.replicate_succ, List.replicate_zero, Nat.reduceSub, Nat.reduceAdd, List.set_cons_zero, List.set_cons_succ, Option.map_some, BT.nm, wipeE, seqK_n, seqK_r, andK_t, andK_f, orK_f, orK_t, iteK_t, iteK_f, asgK_nm, asgK_t2, asgK_t3, endF_n, endF_r, slI_i, toBl_b, vw_i, vw_b, vw_t, vw_tI, vw_tT, vw_l, vw_s, vw_n, vw_ty, src_t, src_tI, src_tT, src_l, bin_add, bin_sub, neg_i, not_b, R.bind_assoc]
            have hj := (List.getElem?_eq_some_iff.mp q).1
            rw [rows_len] at hj
            have h7' : 2 ^ i ≤ 2 ^ 7 := Nat.pow_le_pow_right (by decide) (by omega)
            rw [bin_addL (by
              rw [List.length_map, List.length_flatMap]
              simp only [List.length_cons, List.length_nil, List.map_const', List.sum_replicate_nat, List.length_take]
              show _ ≤ 16777216
              rw [rows_len]
              omega)]
            simp only [e_var, e_cst, e_ty, e_gfn, e_bin, e_cmp, e_chn, e_neg, e_nt, e_one, e_and, e_or, e_ite, e_tup, e_lst, e_idx, e_slc, o_none, o_some, e_call, e_blt, e_isi, a_nil, a_cons, i_of, i_rng, c_none, c_some, s_set, s_setLc, s_asg, s_par, s_stI, s_ex, s_ret, s_if, s_rai, s_pass, b_nil, b_cons, M.opt_some, R.bind_ok, getE_0, getE_s, List.map_cons, List.map_nil, List.cons_append, List.nil_append, List.length_cons, List.length_nil, List.replicate_succ, List.replicate_zero, Nat.reduceSub, Nat.reduceAdd, List.set_cons_zero, List.set_cons_succ, Option.map_some, BT.nm, wipeE, seqK_n, seqK_r, andK_t, andK_f, orK_f, orK_t, iteK_t, iteK_f, asgK_nm, asgK_t2, asgK_t3, endF_n, endF_r, slI_i, toBl_b, vw_i, vw_b, vw_t, vw_tI, vw_tT, vw_l, vw_s, vw_n, vw_ty, src_t, src_tI, src_tT, src_l, bin_add, bin_sub, neg_i, not_b, R.bind_assoc]
            refine ⟨rfl, some (tI r), t4, ?_⟩
            have et : (rows i).take (j + 1) = (rows i).take j ++ [r] := by rw [List.take_add_one, q]; rfl
            rw [et, List.flatMap_append, List.map_append]
            rfl
        · obtain ⟨rfl, t3, t4, rfl⟩ := hI
          rw [List.length_map, List.take_length]
          exact ⟨rfl, t3, t4, rfl⟩
      simp only [e_var, e_cst, e_ty, e_gfn, e_bin, e_cmp, e_chn, e_neg, e_nt, e_one, e_and, e_or, e_ite, e_tup, e_lst, e_idx, e_slc, o_none, o_some, e_call, e_blt, e_isi, a_nil, a_cons, i_of, i_rng, c_none, c_some, s_set, s_setLc, s_asg, s_par, s_stI, s_ex, s_ret, s_if, s_rai, s_pass, b_nil, b_cons, M.opt_some, R.bind_ok, getE_0, getE_s, List.map_cons, List.map_nil, List.cons_append, List.nil_append, List.length_cons, List.length_nil, List.replicate_succ, List.replicate_zero, Nat.reduceSub, Nat.reduceAdd, List.set_cons_zero, List.set_cons_succ, Option.map_some, BT.nm, wipeE, seqK_n, seqK_r, andK_t, andK_f, orK_f, orK_t, iteK_t, iteK_f, asgK_nm, asgK_t2, asgK_t3, endF_n, endF_r, slI_i, toBl_b, vw_i, vw_b, vw_t, vw_tI, vw_tT, vw_l, vw_s, vw_n, vw_ty, src_t, src_tI, src_tT, src_l, bin_add, bin_sub, neg_i, not_b, R.bind_assoc, e_lst]
      refine Wp.bind (h2.mono fun f S2 hf => ?_)
      obtain ⟨rfl, t3, t4, rfl⟩ := hf
      simp only [e_var, e_cst, e_ty, e_gfn, e_bin, e_cmp, e_chn, e_neg, e_nt, e_one, e_and, e_or, e_ite, e_tup, e_lst, e_idx, e_slc, o_none, o_some, e_call, e_blt, e_isi, a_nil, a_cons, i_of, i_rng, c_none, c_some, s_set, s_setLc, s_asg, s_par, s_stI, s_ex, s_ret, s_if, s_rai, s_pass, b_nil, b_cons, M.opt_some, R.bind_ok, getE_0, getE_s, List.map_cons, List.map_nil, List.cons_append, List.nil_append, List.length_cons, List.length_nil, List.replicate_succ, List.replicate_zero, Nat.reduceSub, Nat.reduceAdd, List.set_cons_zero, List.set_cons_succ, Option.map_some, BT.nm, wipeE, seqK_n, seqK_r, andK_t, andK_f, orK_f, orK_t, iteK_t, iteK_f, asgK_nm, asgK_t2, asgK_t3, endF_n, endF_r, slI_i, toBl_b, vw_i, vw_b, vw_t, vw_tI, vw_tT, vw_l, vw_s, vw_n, vw_ty, src_t, src_tI, src_tT, src_l, bin_add, bin_sub, neg_i, not_b, R.bind_assoc]
      exact ⟨rfl, _, _, _, _, rfl⟩
    · obtain ⟨rfl, t1, t2, t3, t4, rfl⟩ := hI
      rw [List.length_map, List.length_range]
      exact ⟨rfl, t1, t2, t3, t4, rfl⟩
  obtain ⟨f, S', e, rfl, t1, t2, t3, t4, rfl⟩ := h1.get
  simp only [b__law_all, e_var, e_cst, e_ty, e_gfn, e_bin, e_cmp, e_chn, e_neg, e_nt, e_one, e_and, e_or, e_ite, e_tup, e_lst, e_idx, e_slc, o_none, o_some, e_call, e_blt, e_isi, a_nil, a_cons, i_of, i_rng, c_none, c_some, s_set, s_setLc, s_asg, s_par, s_stI, s_ex, s_ret, s_if, s_rai, s_pass, b_nil, b_cons, M.opt_some, R.bind_ok, getE_0, getE_s, List.map_cons, List.map_nil, List.cons_append, List.nil_append, List.length_cons, List.length_nil, List.replicate_succ, List.replicate_zero, Nat.reduceSub, Nat.reduceAdd, List.set_cons_zero, List.set_cons_succ, Option.map_some, BT.nm, wipeE, seqK_n, seqK_r, andK_t, andK_f, orK_f, orK_t, iteK_t, iteK_f, asgK_nm, asgK_t2, asgK_t3, endF_n, endF_r, slI_i, toBl_b, vw_i, vw_b, vw_t, vw_tI, vw_tT, vw_l, vw_s, vw_n, vw_ty, src_t, src_tI, src_tT, src_l, bin_add, bin_sub, neg_i, not_b, R.bind_assoc, e_lst]
  rw [e]
  simp only [e_var, e_cst, e_ty, e_gfn, e_bin, e_cmp, e_chn, e_neg, e_nt, e_one, e_and, e_or, e_ite, e_tup, e_lst, e_idx, e_slc, o_none, o_some, e_call, e_blt, e_isi, a_nil, a_cons, i_of, i_rng, c_none, c_some, s_set, s_setLc, s_asg, s_par, s_stI, s_ex, s_ret, s_if, s_rai, s_pass, b_nil, b_cons, M.opt_some, R.bind_ok, getE_0, getE_s, List.map_cons, List.map_nil, List.cons_append, List.nil_append, List.length_cons, List.length_nil, List.replicate_succ, List.replicate_zero, Nat.reduceSub, Nat.reduceAdd, List.set_cons_zero, List.set_cons_succ, Option.map_some, BT.nm, wipeE, seqK_n, seqK_r, andK_t, andK_f, orK_f, orK_t, iteK_t, iteK_f, asgK_nm, asgK_t2, asgK_t3, endF_n, endF_r, slI_i, toBl_b, vw_i, vw_b, vw_t, vw_tI, vw_tT, vw_l, vw_s, vw_n, vw_ty, src_t, src_tI, src_tT, src_l, bin_add, bin_sub, neg_i, not_b, R.bind_assoc]
end
theorem range_getD {α : Type} (l : List α) (d : α) : (List.range l.length).map (fun i => l.getD i d) = l := by
  apply List.ext_getElem
  · simp
  · intro i h1 h2
    simp [List.getD, List.getElem?_eq_getElem h2]
theorem filter_ix {α : Type} (l : List α) (d : α) (q : α → Bool) : ((List.range l.length).filter (fun i => q (l.getD i d))).map (fun i => l.getD i d) = l.filter q := by
  conv => rhs; rw [← range_getD l d]
  rw [List.filter_map]
  rfl
theorem ssum_neg (c s : List Int) : ssum (c.map fun x => 0 - x) s = - ssum c s := by
  unfold ssum
  induction s with
  | nil => rfl
  | cons x xs ih =>
    have e : (c.map fun x => 0 - x).getD x.toNat 0 = - c.getD x.toNat 0 := by
      simp only [List.getD, List.getElem?_map]
      cases c[x.toNat]? <;> simp
    rw [List.map_cons, List.map_cons, List.sum_cons, List.sum_cons, ih, e]
    omega
theorem iabs_neg (x : Int) : iabs (-x) = iabs x := by
  unfold iabs
  split <;> split <;> omega
theorem unev_neg (c : List Int) (ss : List (List Int)) : unev (c.map fun x => 0 - x) ss = unev c ss := by
  unfold unev
  congr 1
  exact List.map_congr_left fun s _ => by rw [ssum_neg, iabs_neg]
theorem hue_neg {n : Int} {c : List Int} (h : hueOk n c) : hueOk n (c.map fun x => 0 - x) := by
  refine ⟨by rw [List.length_map]; exact h.1, fun x hx => ?_⟩
  obtain ⟨y, hy, rfl⟩ := List.mem_map.mp hx
  have := h.2 y hy
  omega
theorem best_mem {n : Int} {ss : List (List Int)} {c : List Int} (h : hueOk n c) (h0 : 0 ≤ n) (l : Int) : c ∈ (rows n.toNat).filter (fun c => decide (unev c ss = l)) ↔ unev c ss = l := by
  rw [List.mem_filter, decide_eq_true_eq]
  exact ⟨fun z => z.2, fun z => ⟨(rows_ok _ c).mpr ⟨by have := h.1; omega, h.2⟩, z⟩⟩
def best (n : Int) (ss : List (List Int)) : List (List Int) := (rows n.toNat).filter fun c => decide (unev c ss = least n.toNat ss)
def sizes (n : Int) (ss : List (List Int)) : D := .lst ((rows n.toNat).map fun c => D.int (unev c ss))
def env1 (ns : List Int) (n : Int) (ss : List (List Int)) (hu t10 t11 : Option D) : Env := [some (lI ns), some (.cell 0), some (fam n ss), some (.int n), some (.lst ((rows n.toNat).map tI)), some (sizes n ss), hu, some (.int (least n.toNat ss)), some (tT (best n ss)), none, t10, t11, none, none, none, none]
/-- one turn -/
theorem turn_ok {ns : List Int} {n : Int} {ss : List (List Int)} (F : FamOk n ss) {b : Nat} (hb : b ≤ 900000) {S : Store} (ht : Tn ns [] b S) (hu t10 t11 : Option D) : Wp (exB (runF (fsOf tab) 11) b_law_1 (env1 ns n ss hu t10 t11) S) (fun f S' => ∃ c t11, f = .nx (env1 ns n ss (some (tI c)) t10 t11) ∧ hueOk n c ∧ Tn ns [] (b + 7) S') := by
  have hlo := F.lo
  have hhi := F.hi
  simp only [b_law_1, e_var, e_cst, e_ty, e_gfn, e_bin, e_cmp, e_chn, e_neg, e_nt, e_one, e_and, e_or, e_ite, e_tup, e_lst, e_idx, e_slc, o_none, o_some, e_call, e_blt, e_isi, a_nil, a_cons, i_of, i_rng, c_none, c_some, s_set, s_setLc, s_asg, s_par, s_stI, s_ex, s_ret, s_if, s_rai, s_pass, b_nil, b_cons, M.opt_some, R.bind_ok, getE_0, getE_s, List.map_cons, List.map_nil, List.cons_append, List.nil_append, List.length_cons, List.length_nil, List.replicate_succ, List.replicate_zero, Nat.reduceSub, Nat.reduceAdd, List.set_cons_zero, List.set_cons_succ, Option.map_some, BT.nm, wipeE, seqK_n, seqK_r, andK_t, andK_f, orK_f, orK_t, iteK_t, iteK_f, asgK_nm, asgK_t2, asgK_t3, endF_n, endF_r, slI_i, toBl_b, vw_i, vw_b, vw_t, vw_tI, vw_tT, vw_l, vw_s, vw_n, vw_ty, src_t, src_tI, src_tT, src_l, bin_add, bin_sub, neg_i, not_b, R.bind_assoc, env1]
  refine Wp.bind ((r_hues drw (by rfl) (n := n) ⟨hlo, hhi⟩ hb ht).mono fun d S1 hd => ?_)
  obtain ⟨c, rfl, hc, ht1⟩ := hd
  rw [r_isc has F fun k S => hue_all hc k S has]
  simp only [e_var, e_cst, e_ty, e_gfn, e_bin, e_cmp, e_chn, e_neg, e_nt, e_one, e_and, e_or, e_ite, e_tup, e_lst, e_idx, e_slc, o_none, o_some, e_call, e_blt, e_isi, a_nil, a_cons, i_of, i_rng, c_none, c_some, s_set, s_setLc, s_asg, s_par, s_stI, s_ex, s_ret, s_if, s_rai, s_pass, b_nil, b_cons, M.opt_some, R.bind_ok, getE_0, getE_s, List.map_cons, List.map_nil, List.cons_append, List.nil_append, List.length_cons, List.length_nil, List.replicate_succ, List.replicate_zero, Nat.reduceSub, Nat.reduceAdd, List.set_cons_zero, List.set_cons_succ, Option.map_some, BT.nm, wipeE, seqK_n, seqK_r, andK_t, andK_f, orK_f, orK_t, iteK_t, iteK_f, asgK_nm, asgK_t2, asgK_t3, endF_n, endF_r, slI_i, toBl_b, vw_i, vw_b, vw_t, vw_tI, vw_tT, vw_l, vw_s, vw_n, vw_ty, src_t, src_tI, src_tT, src_l, bin_add, bin_sub, neg_i, not_b, R.bind_assoc, cmp_isN, decide_true, Bool.not_true]
  rw [r_sumz has F hc]
  simp only [e_var, e_cst, e_ty, e_gfn, e_bin, e_cmp, e_chn, e_neg, e_nt, e_one, e_and, e_or, e_ite, e_tup, e_lst, e_idx, e_slc, o_none, o_some, e_call, e_blt, e_isi, a_nil, a_cons, i_of, i_rng, c_none, c_some, s_set, s_setLc, s_asg, s_par, s_stI, s_ex, s_ret, s_if, s_rai, s_pass, b_nil, b_cons, M.opt_some, R.bind_ok, getE_0, getE_s, List.map_cons, List.map_nil, List.cons_append, List.nil_append, List.length_cons, List.length_nil, List.replicate_succ, List.replicate_zero, Nat.reduceSub, Nat.reduceAdd, List.set_cons_zero, List.set_cons_succ, Option.map_some, BT.nm, wipeE, seqK_n, seqK_r, andK_t, andK_f, orK_f, orK_t, iteK_t, iteK_f, asgK_nm, asgK_t2, asgK_t3, endF_n, endF_r, slI_i, toBl_b, vw_i, vw_b, vw_t, vw_tI, vw_tT, vw_l, vw_s, vw_n, vw_ty, src_t, src_tI, src_tT, src_l, bin_add, bin_sub, neg_i, not_b, R.bind_assoc]
  rw [r_sums (x := "_law_sums") (by rfl) F hc.1]
  simp only [e_var, e_cst, e_ty, e_gfn, e_bin, e_cmp, e_chn, e_neg, e_nt, e_one, e_and, e_or, e_ite, e_tup, e_lst, e_idx, e_slc, o_none, o_some, e_call, e_blt, e_isi, a_nil, a_cons, i_of, i_rng, c_none, c_some, s_set, s_setLc, s_asg, s_par, s_stI, s_ex, s_ret, s_if, s_rai, s_pass, b_nil, b_cons, M.opt_some, R.bind_ok, getE_0, getE_s, List.map_cons, List.map_nil, List.cons_append, List.nil_append, List.length_cons, List.length_nil, List.replicate_succ, List.replicate_zero, Nat.reduceSub, Nat.reduceAdd, List.set_cons_zero, List.set_cons_succ, Option.map_some, BT.nm, wipeE, seqK_n, seqK_r, andK_t, andK_f, orK_f, orK_t, iteK_t, iteK_f, asgK_nm, asgK_t2, asgK_t3, endF_n, endF_r, slI_i, toBl_b, vw_i, vw_b, vw_t, vw_tI, vw_tT, vw_l, vw_s, vw_n, vw_ty, src_t, src_tI, src_tT, src_l, bin_add, bin_sub, neg_i, not_b, R.bind_assoc, cne_tI, decide_true, Bool.not_true]
  rw [r_une has F hc]
  simp only [e_var, e_cst, e_ty, e_gfn, e_bin, e_cmp, e_chn, e_neg, e_nt, e_one, e_and, e_or, e_ite, e_tup, e_lst, e_idx, e_slc, o_none, o_some, e_call, e_blt, e_isi, a_nil, a_cons, i_of, i_rng, c_none, c_some, s_set, s_setLc, s_asg, s_par, s_stI, s_ex, s_ret, s_if, s_rai, s_pass, b_nil, b_cons, M.opt_some, R.bind_ok, getE_0, getE_s, List.map_cons, List.map_nil, List.cons_append, List.nil_append, List.length_cons, List.length_nil, List.replicate_succ, List.replicate_zero, Nat.reduceSub, Nat.reduceAdd, List.set_cons_zero, List.set_cons_succ, Option.map_some, BT.nm, wipeE, seqK_n, seqK_r, andK_t, andK_f, orK_f, orK_t, iteK_t, iteK_f, asgK_nm, asgK_t2, asgK_t3, endF_n, endF_r, slI_i, toBl_b, vw_i, vw_b, vw_t, vw_tI, vw_tT, vw_l, vw_s, vw_n, vw_ty, src_t, src_tI, src_tT, src_l, bin_add, bin_sub, neg_i, not_b, R.bind_assoc]
  rw [r_uneven (x := "_law_uneven") (y := "_law_sums") rfl (by rfl) (by rfl) F hc.1]
  simp only [e_var, e_cst, e_ty, e_gfn, e_bin, e_cmp, e_chn, e_neg, e_nt, e_one, e_and, e_or, e_ite, e_tup, e_lst, e_idx, e_slc, o_none, o_some, e_call, e_blt, e_isi, a_nil, a_cons, i_of, i_rng, c_none, c_some, s_set, s_setLc, s_asg, s_par, s_stI, s_ex, s_ret, s_if, s_rai, s_pass, b_nil, b_cons, M.opt_some, R.bind_ok, getE_0, getE_s, List.map_cons, List.map_nil, List.cons_append, List.nil_append, List.length_cons, List.length_nil, List.replicate_succ, List.replicate_zero, Nat.reduceSub, Nat.reduceAdd, List.set_cons_zero, List.set_cons_succ, Option.map_some, BT.nm, wipeE, seqK_n, seqK_r, andK_t, andK_f, orK_f, orK_t, iteK_t, iteK_f, asgK_nm, asgK_t2, asgK_t3, endF_n, endF_r, slI_i, toBl_b, vw_i, vw_b, vw_t, vw_tI, vw_tT, vw_l, vw_s, vw_n, vw_ty, src_t, src_tI, src_tT, src_l, bin_add, bin_sub, neg_i, not_b, R.bind_assoc, cne_i, decide_true, Bool.not_true]
  rw [lcE_map c D.int (fun x => D.int (0 - x)) (by simp only [e_var, e_cst, e_ty, e_gfn, e_bin, e_cmp, e_chn, e_neg, e_nt, e_one, e_and, e_or, e_ite, e_tup, e_lst, e_idx, e_slc, o_none, o_some, e_call, e_blt, e_isi, a_nil, a_cons, i_of, i_rng, c_none, c_some, s_set, s_setLc, s_asg, s_par, s_stI, s_ex, s_ret, s_if, s_rai, s_pass, b_nil, b_cons, M.opt_some, R.bind_ok, getE_0, getE_s, List.map_cons, List.map_nil, List.cons_append, List.nil_append, List.length_cons, List.length_nil, List.replicate_succ, List.replicate_zero, Nat.reduceSub, Nat.reduceAdd, List.set_cons_zero, List.set_cons_succ, Option.map_some, BT.nm, wipeE, seqK_n, seqK_r, andK_t, andK_f, orK_f, orK_t, iteK_t, iteK_f, asgK_nm, asgK_t2, asgK_t3, endF_n, endF_r, slI_i, toBl_b, vw_i, vw_b, vw_t, vw_tI, vw_tT, vw_l, vw_s, vw_n, vw_ty, src_t, src_tI, src_tT, src_l, bin_add, bin_sub, neg_i, not_b, R.bind_assoc]) (fun x hx => ⟨_, rfl, by simp only [e_var, e_cst, e_ty, e_gfn, e_bin, e_cmp, e_chn, e_neg, e_nt, e_one, e_and, e_or, e_ite, e_tup, e_lst, e_idx, e_slc, o_none, o_some, e_call, e_blt, e_isi, a_nil, a_cons, i_of, i_rng, c_none, c_some, s_set, s_setLc, s_asg, s_par, s_stI, s_ex, s_ret, s_if, s_rai, s_pass, b_nil, b_cons, M.opt_some, R.bind_ok, getE_0, getE_s, List.map_cons, List.map_nil, List.cons_append, List.nil_append, List.length_cons, List.length_nil, List.replicate_succ, List.replicate_zero, Nat.reduceSub, Nat.reduceAdd, List.set_cons_zero, List.set_cons_succ, Option.map_some, BT.nm, wipeE, seqK_n, seqK_r, andK_t, andK_f, orK_f, orK_t, iteK_t, iteK_f, asgK_nm, asgK_t2, asgK_t3, endF_n, endF_r, slI_i, toBl_b, vw_i, vw_b, vw_t, vw_tI, vw_tT, vw_l, vw_s, vw_n, vw_ty, src_t, src_tI, src_tT, src_l, bin_add, bin_sub, neg_i, not_b, R.bind_assoc]⟩)]
  simp only [e_var, e_cst, e_ty, e_gfn, e_bin, e_cmp, e_chn, e_neg, e_nt, e_one, e_and, e_or, e_ite, e_tup, e_lst, e_idx, e_slc, o_none, o_some, e_call, e_blt, e_isi, a_nil, a_cons, i_of, i_rng, c_none, c_some, s_set, s_setLc, s_asg, s_par, s_stI, s_ex, s_ret, s_if, s_rai, s_pass, b_nil, b_cons, M.opt_some, R.bind_ok, getE_0, getE_s, List.map_cons, List.map_nil, List.cons_append, List.nil_append, List.length_cons, List.length_nil, List.replicate_succ, List.replicate_zero, Nat.reduceSub, Nat.reduceAdd, List.set_cons_zero, List.set_cons_succ, Option.map_some, BT.nm, wipeE, seqK_n, seqK_r, andK_t, andK_f, orK_f, orK_t, iteK_t, iteK_f, asgK_nm, asgK_t2, asgK_t3, endF_n, endF_r, slI_i, toBl_b, vw_i, vw_b, vw_t, vw_tI, vw_tT, vw_l, vw_s, vw_n, vw_ty, src_t, src_tI, src_tT, src_l, bin_add, bin_sub, neg_i, not_b, R.bind_assoc, tup_l]
  rw [tI_map c (fun x => 0 - x)]
  rw [r_une has F (hue_neg hc)]
  simp only [e_var, e_cst, e_ty, e_gfn, e_bin, e_cmp, e_chn, e_neg, e_nt, e_one, e_and, e_or, e_ite, e_tup, e_lst, e_idx, e_slc, o_none, o_some, e_call, e_blt, e_isi, a_nil, a_cons, i_of, i_rng, c_none, c_some, s_set, s_setLc, s_asg, s_par, s_stI, s_ex, s_ret, s_if, s_rai, s_pass, b_nil, b_cons, M.opt_some, R.bind_ok, getE_0, getE_s, List.map_cons, List.map_nil, List.cons_append, List.nil_append, List.length_cons, List.length_nil, List.replicate_succ, List.replicate_zero, Nat.reduceSub, Nat.reduceAdd, List.set_cons_zero, List.set_cons_succ, Option.map_some, BT.nm, wipeE, seqK_n, seqK_r, andK_t, andK_f, orK_f, orK_t, iteK_t, iteK_f, asgK_nm, asgK_t2, asgK_t3, endF_n, endF_r, slI_i, toBl_b, vw_i, vw_b, vw_t, vw_tI, vw_tT, vw_l, vw_s, vw_n, vw_ty, src_t, src_tI, src_tT, src_l, bin_add, bin_sub, neg_i, not_b, R.bind_assoc]
  rw [r_une has F hc, unev_neg]
  simp only [e_var, e_cst, e_ty, e_gfn, e_bin, e_cmp, e_chn, e_neg, e_nt, e_one, e_and, e_or, e_ite, e_tup, e_lst, e_idx, e_slc, o_none, o_some, e_call, e_blt, e_isi, a_nil, a_cons, i_of, i_rng, c_none, c_some, s_set, s_setLc, s_asg, s_par, s_stI, s_ex, s_ret, s_if, s_rai, s_pass, b_nil, b_cons, M.opt_some, R.bind_ok, getE_0, getE_s, List.map_cons, List.map_nil, List.cons_append, List.nil_append, List.length_cons, List.length_nil, List.replicate_succ, List.replicate_zero, Nat.reduceSub, Nat.reduceAdd, List.set_cons_zero, List.set_cons_succ, Option.map_some, BT.nm, wipeE, seqK_n, seqK_r, andK_t, andK_f, orK_f, orK_t, iteK_t, iteK_f, asgK_nm, asgK_t2, asgK_t3, endF_n, endF_r, slI_i, toBl_b, vw_i, vw_b, vw_t, vw_tI, vw_tT, vw_l, vw_s, vw_n, vw_ty, src_t, src_tI, src_tT, src_l, bin_add, bin_sub, neg_i, not_b, R.bind_assoc, cne_i, decide_true, Bool.not_true, cin_tT]
  have e : decide ((c.map fun x => 0 - x) ∈ best n ss) = decide (c ∈ best n ss) := by
    have h1 := best_mem (ss := ss) (hue_neg hc) (by omega) (least n.toNat ss)
    have h2 := best_mem (ss := ss) hc (by omega) (least n.toNat ss)
    rw [unev_neg] at h1
    exact decide_eq_decide.mpr (h1.trans h2.symm)
  rw [e, cmp_ne (a := .bl _) (b := .bl _) rfl rfl, eqb_bl]
  simp only [e_var, e_cst, e_ty, e_gfn, e_bin, e_cmp, e_chn, e_neg, e_nt, e_one, e_and, e_or, e_ite, e_tup, e_lst, e_idx, e_slc, o_none, o_some, e_call, e_blt, e_isi, a_nil, a_cons, i_of, i_rng, c_none, c_some, s_set, s_setLc, s_asg, s_par, s_stI, s_ex, s_ret, s_if, s_rai, s_pass, b_nil, b_cons, M.opt_some, R.bind_ok, getE_0, getE_s, List.map_cons, List.map_nil, List.cons_append, List.nil_append, List.length_cons, List.length_nil, List.replicate_succ, List.replicate_zero, Nat.reduceSub, Nat.reduceAdd, List.set_cons_zero, List.set_cons_succ, Option.map_some, BT.nm, wipeE, seqK_n, seqK_r, andK_t, andK_f, orK_f, orK_t, iteK_t, iteK_f, asgK_nm, asgK_t2, asgK_t3, endF_n, endF_r, slI_i, toBl_b, vw_i, vw_b, vw_t, vw_tI, vw_tT, vw_l, vw_s, vw_n, vw_ty, src_t, src_tI, src_tT, src_l, bin_add, bin_sub, neg_i, not_b, R.bind_assoc, decide_true, Bool.not_true]
  exact ⟨c, _, rfl, hc, ht1⟩
theorem cut1 (xs : List D) : cutD xs (some 1) none = xs.drop 1 := by
  cases xs with
  | nil => rfl
  | cons x xs =>
    show List.take (HT.sIx (xs.length + 1) (xs.length + 1) none - HT.sIx (xs.length + 1) 0 (some 1)) (List.drop (HT.sIx (xs.length + 1) 0 (some 1)) (x :: xs)) = xs
    have e : HT.sIx (xs.length + 1) 0 (some 1) = 1 := by
      show min (Int.toNat 1) (xs.length + 1) = 1
      simp
    rw [e]
    show List.take (xs.length + 1 - 1) xs = xs
    simp
theorem often_le {n : Int} {ss : List (List Int)} (F : FamOk n ss) : 0 ≤ often n.toNat ss ∧ often n.toNat ss ≤ 8 := by
  have hlo := F.lo
  obtain ⟨m1, _⟩ := maxL_spec (ns := (List.range n.toNat).map fun k : Nat => (deg ss (k : Int) : Int)) (by simp; omega)
  obtain ⟨k, hk, e⟩ := List.mem_map.mp m1
  have hd : deg ss (k : Int) ≤ ss.length := List.length_filter_le ..
  have h8 := F.le
  have e : (deg ss (k : Int) : Int) = often n.toNat ss := e
  omega
theorem ceq_lT0 (l : List (List Int)) : cmpB .Eq (.lst (l.map tI)) (.lst []) = some (.bl (decide (l = []))) := by
  rw [cmp_eq (a := .lst (l.map tI)) (b := .lst []) (sh_tIs l 58) rfl]
  cases l with
  | nil => rfl
  | cons x xs => rfl
theorem no_colours {n : Int} {ss : List (List Int)} (F : FamOk n ss) {x : D} (S : Store) (k : Nat) (hx : ∀ k S, runF (fsOf tab) (k + 1) "are_colours" [fam n ss, x] S = .ok (.bl false) S) : runF (fsOf tab) (k + 5) "is_colours" [fam n ss, x] S = .ok (.bl false) S := r_isc has F hx
theorem bad_tup {n : Int} {ss : List (List Int)} {xs : List D} (hp : ∀ x ∈ xs, plainD x) (h : (decide ((xs.length : Int) = n) && xs.all isHue) = false) (k : Nat) (S : Store) : runF (fsOf tab) (k + 1) "are_colours" [fam n ss, .tup xs] S = .ok (.bl false) S := by
  rw [r_are has xs hp, h]
theorem plain_ints (c : List Int) : ∀ x ∈ c.map D.int, plainD x := fun x hx => by
  obtain ⟨i, _, rfl⟩ := List.mem_map.mp hx
  trivial
theorem bads_ok {n : Int} {ss : List (List Int)} (F : FamOk n ss) {c : List Int} (hc : hueOk n c) (S : Store) (k : Nat) :
    ∀ x ∈ ([.non, .tup [], .tup (c.map D.int ++ [.int 1]), .tup ((c.map D.int).drop 1), .lst (c.map D.int), .tup (.int 0 :: (c.map D.int).drop 1), .tup (List.replicate n.toNat (.bl true)), .tup (List.replicate n.toNat (.str "1"))] : List D), runF (fsOf tab) (k + 5) "is_colours" [fam n ss, x] S = .ok (.bl false) S := by
  have hlo := F.lo
  have hl := hc.1
  intro x hx
  refine no_colours F S k ?_
  simp only [List.mem_cons, List.not_mem_nil, or_false] at hx
  rcases hx with rfl | rfl | rfl | rfl | rfl | rfl | rfl | rfl
  · exact fun k S => r_are_no has fun S => by rw [isi_non, kit9]; rfl
  · refine bad_tup (by simp) ?_
    have : ¬ ((0 : Int) = n) := by omega
    simp [this]
  · refine bad_tup (fun x hx => ?_) ?_
    · rcases List.mem_append.mp hx with hx | hx
      · exact plain_ints c x hx
      · simp at hx
        subst hx
        trivial
    · have : ¬ ((c.length : Int) + 1 = n) := by omega
      simp [this]
  · refine bad_tup (fun x hx => plain_ints c x (List.mem_of_mem_drop hx)) ?_
    have : ¬ (((c.length - 1 : Nat) : Int) = n) := by omega
    simp [this]
  · exact fun k S => r_are_no has fun S => by rw [isi_lst, kit8]; rfl
  · refine bad_tup (fun x hx => ?_) ?_
    · rcases List.mem_cons.mp hx with rfl | hx
      · trivial
      · exact plain_ints c x (List.mem_of_mem_drop hx)
    · simp [isHue]
  · refine bad_tup (fun x hx => ?_) ?_
    · rw [(List.mem_replicate.mp hx).2]; trivial
    · have : n.toNat ≠ 0 := by omega
      simp [isHue, this]
  · refine bad_tup (fun x hx => ?_) ?_
    · rw [(List.mem_replicate.mp hx).2]; trivial
    · have : n.toNat ≠ 0 := by omega
      simp [isHue, this]
theorem law_ok (ns : List Int) (hns : ns.length ≤ 63) : ∃ S, runF (fsOf tab) 12 "law" [.lst (ns.map .int)] [] = .ok (.bl true) S := by
  have main : Wp (runF (fsOf tab) 12 "law" [lI ns] []) (fun d _ => d = .bl true) := by
    rw [rf_eq (F := ⟨1, 16, b_law⟩) (by rfl)]
    simp only [b_law, e_var, e_cst, e_ty, e_gfn, e_bin, e_cmp, e_chn, e_neg, e_nt, e_one, e_and, e_or, e_ite, e_tup, e_lst, e_idx, e_slc, o_none, o_some, e_call, e_blt, e_isi, a_nil, a_cons, i_of, i_rng, c_none, c_some, s_set, s_setLc, s_asg, s_par, s_stI, s_ex, s_ret, s_if, s_rai, s_pass, b_nil, b_cons, M.opt_some, R.bind_ok, getE_0, getE_s, List.map_cons, List.map_nil, List.cons_append, List.nil_append, List.length_cons, List.length_nil, List.replicate_succ, List.replicate_zero, Nat.reduceSub, Nat.reduceAdd, List.set_cons_zero, List.set_cons_succ, Option.map_some, BT.nm, wipeE, seqK_n, seqK_r, andK_t, andK_f, orK_f, orK_t, iteK_t, iteK_f, asgK_nm, asgK_t2, asgK_t3, endF_n, endF_r, slI_i, toBl_b, vw_i, vw_b, vw_t, vw_tI, vw_tT, vw_l, vw_s, vw_n, vw_ty, src_t, src_tI, src_tT, src_l, bin_add, bin_sub, neg_i, not_b, R.bind_assoc]
    refine Wp.bind ((r_town (by rfl) hns).mono fun d S1 hd => ?_)
    obtain ⟨rfl, ht1⟩ := hd
    refine Wp.bind ((r_family drw (by rfl) (most := 7) (by omega) (by omega) ht1).mono fun d S2 hd => ?_)
    obtain ⟨n, ss, rfl, hn7, F, ht2⟩ := hd
    have hlo := F.lo
    have hhi := F.hi
    have ef : fam n ss = .tup [.int n, tT ss] := rfl
    simp only [e_var, e_cst, e_ty, e_gfn, e_bin, e_cmp, e_chn, e_neg, e_nt, e_one, e_and, e_or, e_ite, e_tup, e_lst, e_idx, e_slc, o_none, o_some, e_call, e_blt, e_isi, a_nil, a_cons, i_of, i_rng, c_none, c_some, s_set, s_setLc, s_asg, s_par, s_stI, s_ex, s_ret, s_if, s_rai, s_pass, b_nil, b_cons, M.opt_some, R.bind_ok, getE_0, getE_s, List.map_cons, List.map_nil, List.cons_append, List.nil_append, List.length_cons, List.length_nil, List.replicate_succ, List.replicate_zero, Nat.reduceSub, Nat.reduceAdd, List.set_cons_zero, List.set_cons_succ, Option.map_some, BT.nm, wipeE, seqK_n, seqK_r, andK_t, andK_f, orK_f, orK_t, iteK_t, iteK_f, asgK_nm, asgK_t2, asgK_t3, endF_n, endF_r, slI_i, toBl_b, vw_i, vw_b, vw_t, vw_tI, vw_tT, vw_l, vw_s, vw_n, vw_ty, src_t, src_tI, src_tT, src_l, bin_add, bin_sub, neg_i, not_b, R.bind_assoc, ef, idx_t, atI_0]
    rw [← ef, show (D.tup [.int (-1), .int 1]) = tI [-1, 1] from rfl]
    rw [r_law_all (by rfl) (by omega) hhi]
    simp only [e_var, e_cst, e_ty, e_gfn, e_bin, e_cmp, e_chn, e_neg, e_nt, e_one, e_and, e_or, e_ite, e_tup, e_lst, e_idx, e_slc, o_none, o_some, e_call, e_blt, e_isi, a_nil, a_cons, i_of, i_rng, c_none, c_some, s_set, s_setLc, s_asg, s_par, s_stI, s_ex, s_ret, s_if, s_rai, s_pass, b_nil, b_cons, M.opt_some, R.bind_ok, getE_0, getE_s, List.map_cons, List.map_nil, List.cons_append, List.nil_append, List.length_cons, List.length_nil, List.replicate_succ, List.replicate_zero, Nat.reduceSub, Nat.reduceAdd, List.set_cons_zero, List.set_cons_succ, Option.map_some, BT.nm, wipeE, seqK_n, seqK_r, andK_t, andK_f, orK_f, orK_t, iteK_t, iteK_f, asgK_nm, asgK_t2, asgK_t3, endF_n, endF_r, slI_i, toBl_b, vw_i, vw_b, vw_t, vw_tI, vw_tT, vw_l, vw_s, vw_n, vw_ty, src_t, src_tI, src_tT, src_l, bin_add, bin_sub, neg_i, not_b, R.bind_assoc]
    rw [lcE_map (rows n.toNat) tI (fun c => D.int (unev c ss)) (by simp only [e_var, e_cst, e_ty, e_gfn, e_bin, e_cmp, e_chn, e_neg, e_nt, e_one, e_and, e_or, e_ite, e_tup, e_lst, e_idx, e_slc, o_none, o_some, e_call, e_blt, e_isi, a_nil, a_cons, i_of, i_rng, c_none, c_some, s_set, s_setLc, s_asg, s_par, s_stI, s_ex, s_ret, s_if, s_rai, s_pass, b_nil, b_cons, M.opt_some, R.bind_ok, getE_0, getE_s, List.map_cons, List.map_nil, List.cons_append, List.nil_append, List.length_cons, List.length_nil, List.replicate_succ, List.replicate_zero, Nat.reduceSub, Nat.reduceAdd, List.set_cons_zero, List.set_cons_succ, Option.map_some, BT.nm, wipeE, seqK_n, seqK_r, andK_t, andK_f, orK_f, orK_t, iteK_t, iteK_f, asgK_nm, asgK_t2, asgK_t3, endF_n, endF_r, slI_i, toBl_b, vw_i, vw_b, vw_t, vw_tI, vw_tT, vw_l, vw_s, vw_n, vw_ty, src_t, src_tI, src_tT, src_l, bin_add, bin_sub, neg_i, not_b, R.bind_assoc]) (fun c hc => ⟨_, rfl, by
      have hl := ((rows_ok _ c).mp hc).1
      simp only [e_var, e_cst, e_ty, e_gfn, e_bin, e_cmp, e_chn, e_neg, e_nt, e_one, e_and, e_or, e_ite, e_tup, e_lst, e_idx, e_slc, o_none, o_some, e_call, e_blt, e_isi, a_nil, a_cons, i_of, i_rng, c_none, c_some, s_set, s_setLc, s_asg, s_par, s_stI, s_ex, s_ret, s_if, s_rai, s_pass, b_nil, b_cons, M.opt_some, R.bind_ok, getE_0, getE_s, List.map_cons, List.map_nil, List.cons_append, List.nil_append, List.length_cons, List.length_nil, List.replicate_succ, List.replicate_zero, Nat.reduceSub, Nat.reduceAdd, List.set_cons_zero, List.set_cons_succ, Option.map_some, BT.nm, wipeE, seqK_n, seqK_r, andK_t, andK_f, orK_f, orK_t, iteK_t, iteK_f, asgK_nm, asgK_t2, asgK_t3, endF_n, endF_r, slI_i, toBl_b, vw_i, vw_b, vw_t, vw_tI, vw_tT, vw_l, vw_s, vw_n, vw_ty, src_t, src_tI, src_tT, src_l, bin_add, bin_sub, neg_i, not_b, R.bind_assoc]
      rw [r_uneven (x := "_law_uneven") (y := "_law_sums") rfl (by rfl) (by rfl) F (by omega)]⟩)]
    simp only [e_var, e_cst, e_ty, e_gfn, e_bin, e_cmp, e_chn, e_neg, e_nt, e_one, e_and, e_or, e_ite, e_tup, e_lst, e_idx, e_slc, o_none, o_some, e_call, e_blt, e_isi, a_nil, a_cons, i_of, i_rng, c_none, c_some, s_set, s_setLc, s_asg, s_par, s_stI, s_ex, s_ret, s_if, s_rai, s_pass, b_nil, b_cons, M.opt_some, R.bind_ok, getE_0, getE_s, List.map_cons, List.map_nil, List.cons_append, List.nil_append, List.length_cons, List.length_nil, List.replicate_succ, List.replicate_zero, Nat.reduceSub, Nat.reduceAdd, List.set_cons_zero, List.set_cons_succ, Option.map_some, BT.nm, wipeE, seqK_n, seqK_r, andK_t, andK_f, orK_f, orK_t, iteK_t, iteK_f, asgK_nm, asgK_t2, asgK_t3, endF_n, endF_r, slI_i, toBl_b, vw_i, vw_b, vw_t, vw_tI, vw_tT, vw_l, vw_s, vw_n, vw_ty, src_t, src_tI, src_tT, src_l, bin_add, bin_sub, neg_i, not_b, R.bind_assoc]
    rw [min_m _ _ (rows_ne _)]
    simp only [e_var, e_cst, e_ty, e_gfn, e_bin, e_cmp, e_chn, e_neg, e_nt, e_one, e_and, e_or, e_ite, e_tup, e_lst, e_idx, e_slc, o_none, o_some, e_call, e_blt, e_isi, a_nil, a_cons, i_of, i_rng, c_none, c_some, s_set, s_setLc, s_asg, s_par, s_stI, s_ex, s_ret, s_if, s_rai, s_pass, b_nil, b_cons, M.opt_some, R.bind_ok, getE_0, getE_s, List.map_cons, List.map_nil, List.cons_append, List.nil_append, List.length_cons, List.length_nil, List.replicate_succ, List.replicate_zero, Nat.reduceSub, Nat.reduceAdd, List.set_cons_zero, List.set_cons_succ, Option.map_some, BT.nm, wipeE, seqK_n, seqK_r, andK_t, andK_f, orK_f, orK_t, iteK_t, iteK_f, asgK_nm, asgK_t2, asgK_t3, endF_n, endF_r, slI_i, toBl_b, vw_i, vw_b, vw_t, vw_tI, vw_tT, vw_l, vw_s, vw_n, vw_ty, src_t, src_tI, src_tT, src_l, bin_add, bin_sub, neg_i, not_b, R.bind_assoc]
    rw [r_least_uneven has F]
    simp only [e_var, e_cst, e_ty, e_gfn, e_bin, e_cmp, e_chn, e_neg, e_nt, e_one, e_and, e_or, e_ite, e_tup, e_lst, e_idx, e_slc, o_none, o_some, e_call, e_blt, e_isi, a_nil, a_cons, i_of, i_rng, c_none, c_some, s_set, s_setLc, s_asg, s_par, s_stI, s_ex, s_ret, s_if, s_rai, s_pass, b_nil, b_cons, M.opt_some, R.bind_ok, getE_0, getE_s, List.map_cons, List.map_nil, List.cons_append, List.nil_append, List.length_cons, List.length_nil, List.replicate_succ, List.replicate_zero, Nat.reduceSub, Nat.reduceAdd, List.set_cons_zero, List.set_cons_succ, Option.map_some, BT.nm, wipeE, seqK_n, seqK_r, andK_t, andK_f, orK_f, orK_t, iteK_t, iteK_f, asgK_nm, asgK_t2, asgK_t3, endF_n, endF_r, slI_i, toBl_b, vw_i, vw_b, vw_t, vw_tI, vw_tT, vw_l, vw_s, vw_n, vw_ty, src_t, src_tI, src_tT, src_l, bin_add, bin_sub, neg_i, not_b, R.bind_assoc]
    rw [show minL ((rows n.toNat).map fun c => unev c ss) = least n.toNat ss from rfl]
    simp only [e_var, e_cst, e_ty, e_gfn, e_bin, e_cmp, e_chn, e_neg, e_nt, e_one, e_and, e_or, e_ite, e_tup, e_lst, e_idx, e_slc, o_none, o_some, e_call, e_blt, e_isi, a_nil, a_cons, i_of, i_rng, c_none, c_some, s_set, s_setLc, s_asg, s_par, s_stI, s_ex, s_ret, s_if, s_rai, s_pass, b_nil, b_cons, M.opt_some, R.bind_ok, getE_0, getE_s, List.map_cons, List.map_nil, List.cons_append, List.nil_append, List.length_cons, List.length_nil, List.replicate_succ, List.replicate_zero, Nat.reduceSub, Nat.reduceAdd, List.set_cons_zero, List.set_cons_succ, Option.map_some, BT.nm, wipeE, seqK_n, seqK_r, andK_t, andK_f, orK_f, orK_t, iteK_t, iteK_f, asgK_nm, asgK_t2, asgK_t3, endF_n, endF_r, slI_i, toBl_b, vw_i, vw_b, vw_t, vw_tI, vw_tT, vw_l, vw_s, vw_n, vw_ty, src_t, src_tI, src_tT, src_l, bin_add, bin_sub, neg_i, not_b, R.bind_assoc, cne_i, decide_true, Bool.not_true]
    rw [r_all_best has F]
    simp only [e_var, e_cst, e_ty, e_gfn, e_bin, e_cmp, e_chn, e_neg, e_nt, e_one, e_and, e_or, e_ite, e_tup, e_lst, e_idx, e_slc, o_none, o_some, e_call, e_blt, e_isi, a_nil, a_cons, i_of, i_rng, c_none, c_some, s_set, s_setLc, s_asg, s_par, s_stI, s_ex, s_ret, s_if, s_rai, s_pass, b_nil, b_cons, M.opt_some, R.bind_ok, getE_0, getE_s, List.map_cons, List.map_nil, List.cons_append, List.nil_append, List.length_cons, List.length_nil, List.replicate_succ, List.replicate_zero, Nat.reduceSub, Nat.reduceAdd, List.set_cons_zero, List.set_cons_succ, Option.map_some, BT.nm, wipeE, seqK_n, seqK_r, andK_t, andK_f, orK_f, orK_t, iteK_t, iteK_f, asgK_nm, asgK_t2, asgK_t3, endF_n, endF_r, slI_i, toBl_b, vw_i, vw_b, vw_t, vw_tI, vw_tT, vw_l, vw_s, vw_n, vw_ty, src_t, src_tI, src_tT, src_l, bin_add, bin_sub, neg_i, not_b, R.bind_assoc]
    have hL : (rows n.toNat).length ≤ 128 := by
      rw [rows_len]
      exact Nat.pow_le_pow_right (n := 2) (by decide) (show n.toNat ≤ 7 by omega)
    rw [lcE_eq (List.range (rows n.toNat).length) (fun i : Nat => D.int (i : Int)) (fun i => decide (unev ((rows n.toNat).getD i []) ss = least n.toNat ss)) (fun i => tI ((rows n.toNat).getD i [])) (by
      simp only [e_var, e_cst, e_ty, e_gfn, e_bin, e_cmp, e_chn, e_neg, e_nt, e_one, e_and, e_or, e_ite, e_tup, e_lst, e_idx, e_slc, o_none, o_some, e_call, e_blt, e_isi, a_nil, a_cons, i_of, i_rng, c_none, c_some, s_set, s_setLc, s_asg, s_par, s_stI, s_ex, s_ret, s_if, s_rai, s_pass, b_nil, b_cons, M.opt_some, R.bind_ok, getE_0, getE_s, List.map_cons, List.map_nil, List.cons_append, List.nil_append, List.length_cons, List.length_nil, List.replicate_succ, List.replicate_zero, Nat.reduceSub, Nat.reduceAdd, List.set_cons_zero, List.set_cons_succ, Option.map_some, BT.nm, wipeE, seqK_n, seqK_r, andK_t, andK_f, orK_f, orK_t, iteK_t, iteK_f, asgK_nm, asgK_t2, asgK_t3, endF_n, endF_r, slI_i, toBl_b, vw_i, vw_b, vw_t, vw_tI, vw_tT, vw_l, vw_s, vw_n, vw_ty, src_t, src_tI, src_tT, src_l, bin_add, bin_sub, neg_i, not_b, R.bind_assoc, len_l, List.length_map]
      rw [rng_1 (by omega), rangeD_n]
      simp only [e_var, e_cst, e_ty, e_gfn, e_bin, e_cmp, e_chn, e_neg, e_nt, e_one, e_and, e_or, e_ite, e_tup, e_lst, e_idx, e_slc, o_none, o_some, e_call, e_blt, e_isi, a_nil, a_cons, i_of, i_rng, c_none, c_some, s_set, s_setLc, s_asg, s_par, s_stI, s_ex, s_ret, s_if, s_rai, s_pass, b_nil, b_cons, M.opt_some, R.bind_ok, getE_0, getE_s, List.map_cons, List.map_nil, List.cons_append, List.nil_append, List.length_cons, List.length_nil, List.replicate_succ, List.replicate_zero, Nat.reduceSub, Nat.reduceAdd, List.set_cons_zero, List.set_cons_succ, Option.map_some, BT.nm, wipeE, seqK_n, seqK_r, andK_t, andK_f, orK_f, orK_t, iteK_t, iteK_f, asgK_nm, asgK_t2, asgK_t3, endF_n, endF_r, slI_i, toBl_b, vw_i, vw_b, vw_t, vw_tI, vw_tT, vw_l, vw_s, vw_n, vw_ty, src_t, src_tI, src_tT, src_l, bin_add, bin_sub, neg_i, not_b, R.bind_assoc, Int.toNat_natCast]) (fun i hi => by
        have hi := List.mem_range.mp hi
        have eg : (rows n.toNat).getD i [] = (rows n.toNat)[i] := by simp [List.getD, List.getElem?_eq_getElem hi]
        have a1 : atI ((rows n.toNat).map fun c => D.int (unev c ss)) (i : Int) = some (.int (unev ((rows n.toNat).getD i []) ss)) := atI_of rfl (by rw [List.getElem?_map, List.getElem?_eq_getElem hi, eg]; rfl)
        have a2 : atI ((rows n.toNat).map tI) (i : Int) = some (tI ((rows n.toNat).getD i [])) := atI_of rfl (by rw [List.getElem?_map, List.getElem?_eq_getElem hi, eg]; rfl)
        exact ⟨_, rfl, by simp only [e_var, e_cst, e_ty, e_gfn, e_bin, e_cmp, e_chn, e_neg, e_nt, e_one, e_and, e_or, e_ite, e_tup, e_lst, e_idx, e_slc, o_none, o_some, e_call, e_blt, e_isi, a_nil, a_cons, i_of, i_rng, c_none, c_some, s_set, s_setLc, s_asg, s_par, s_stI, s_ex, s_ret, s_if, s_rai, s_pass, b_nil, b_cons, M.opt_some, R.bind_ok, getE_0, getE_s, List.map_cons, List.map_nil, List.cons_append, List.nil_append, List.length_cons, List.length_nil, List.replicate_succ, List.replicate_zero, Nat.reduceSub, Nat.reduceAdd, List.set_cons_zero, List.set_cons_succ, Option.map_some, BT.nm, wipeE, seqK_n, seqK_r, andK_t, andK_f, orK_f, orK_t, iteK_t, iteK_f, asgK_nm, asgK_t2, asgK_t3, endF_n, endF_r, slI_i, toBl_b, vw_i, vw_b, vw_t, vw_tI, vw_tT, vw_l, vw_s, vw_n, vw_ty, src_t, src_tI, src_tT, src_l, bin_add, bin_sub, neg_i, not_b, R.bind_assoc, idx_l, a1, ceq_i], fun _ => by simp only [e_var, e_cst, e_ty, e_gfn, e_bin, e_cmp, e_chn, e_neg, e_nt, e_one, e_and, e_or, e_ite, e_tup, e_lst, e_idx, e_slc, o_none, o_some, e_call, e_blt, e_isi, a_nil, a_cons, i_of, i_rng, c_none, c_some, s_set, s_setLc, s_asg, s_par, s_stI, s_ex, s_ret, s_if, s_rai, s_pass, b_nil, b_cons, M.opt_some, R.bind_ok, getE_0, getE_s, List.map_cons, List.map_nil, List.cons_append, List.nil_append, List.length_cons, List.length_nil, List.replicate_succ, List.replicate_zero, Nat.reduceSub, Nat.reduceAdd, List.set_cons_zero, List.set_cons_succ, Option.map_some, BT.nm, wipeE, seqK_n, seqK_r, andK_t, andK_f, orK_f, orK_t, iteK_t, iteK_f, asgK_nm, asgK_t2, asgK_t3, endF_n, endF_r, slI_i, toBl_b, vw_i, vw_b, vw_t, vw_tI, vw_tT, vw_l, vw_s, vw_n, vw_ty, src_t, src_tI, src_tT, src_l, bin_add, bin_sub, neg_i, not_b, R.bind_assoc, idx_l, a2]⟩)]
    have e3 : ((List.range (rows n.toNat).length).filter fun i => decide (unev ((rows n.toNat).getD i []) ss = least n.toNat ss)).map (fun i => tI ((rows n.toNat).getD i [])) = (best n ss).map tI := by
      have := congrArg (List.map tI) (filter_ix (rows n.toNat) [] fun c => decide (unev c ss = least n.toNat ss))
      rw [List.map_map] at this
      exact this
    rw [e3]
    simp only [e_var, e_cst, e_ty, e_gfn, e_bin, e_cmp, e_chn, e_neg, e_nt, e_one, e_and, e_or, e_ite, e_tup, e_lst, e_idx, e_slc, o_none, o_some, e_call, e_blt, e_isi, a_nil, a_cons, i_of, i_rng, c_none, c_some, s_set, s_setLc, s_asg, s_par, s_stI, s_ex, s_ret, s_if, s_rai, s_pass, b_nil, b_cons, M.opt_some, R.bind_ok, getE_0, getE_s, List.map_cons, List.map_nil, List.cons_append, List.nil_append, List.length_cons, List.length_nil, List.replicate_succ, List.replicate_zero, Nat.reduceSub, Nat.reduceAdd, List.set_cons_zero, List.set_cons_succ, Option.map_some, BT.nm, wipeE, seqK_n, seqK_r, andK_t, andK_f, orK_f, orK_t, iteK_t, iteK_f, asgK_nm, asgK_t2, asgK_t3, endF_n, endF_r, slI_i, toBl_b, vw_i, vw_b, vw_t, vw_tI, vw_tT, vw_l, vw_s, vw_n, vw_ty, src_t, src_tI, src_tT, src_l, bin_add, bin_sub, neg_i, not_b, R.bind_assoc, tup_l]
    rw [show D.tup ((best n ss).map tI) = tT (best n ss) from rfl, show (rows n.toNat).filter (fun c => decide (unev c ss = least n.toNat ss)) = best n ss from rfl]
    simp only [e_var, e_cst, e_ty, e_gfn, e_bin, e_cmp, e_chn, e_neg, e_nt, e_one, e_and, e_or, e_ite, e_tup, e_lst, e_idx, e_slc, o_none, o_some, e_call, e_blt, e_isi, a_nil, a_cons, i_of, i_rng, c_none, c_some, s_set, s_setLc, s_asg, s_par, s_stI, s_ex, s_ret, s_if, s_rai, s_pass, b_nil, b_cons, M.opt_some, R.bind_ok, getE_0, getE_s, List.map_cons, List.map_nil, List.cons_append, List.nil_append, List.length_cons, List.length_nil, List.replicate_succ, List.replicate_zero, Nat.reduceSub, Nat.reduceAdd, List.set_cons_zero, List.set_cons_succ, Option.map_some, BT.nm, wipeE, seqK_n, seqK_r, andK_t, andK_f, orK_f, orK_t, iteK_t, iteK_f, asgK_nm, asgK_t2, asgK_t3, endF_n, endF_r, slI_i, toBl_b, vw_i, vw_b, vw_t, vw_tI, vw_tT, vw_l, vw_s, vw_n, vw_ty, src_t, src_tI, src_tT, src_l, bin_add, bin_sub, neg_i, not_b, R.bind_assoc, cne_tT, decide_true, Bool.not_true]
    have lp : Wp (exS (runF (fsOf tab) 11) (.for_ (.rng (.cons (.cst (.int 3)) .nil)) (.nm 10) b_law_1) (env1 ns n ss none none none) S2) (fun f S' => ∃ c t10 t11, f = .nx (env1 ns n ss (some (tI c)) t10 t11) ∧ hueOk n c ∧ Tn ns [] 121 S') := by
      rw [s_for]
      refine wp_for (xs := (List.range 3).map fun i : Nat => D.int (i : Int)) (S1 := S2) (by simp only [e_var, e_cst, e_ty, e_gfn, e_bin, e_cmp, e_chn, e_neg, e_nt, e_one, e_and, e_or, e_ite, e_tup, e_lst, e_idx, e_slc, o_none, o_some, e_call, e_blt, e_isi, a_nil, a_cons, i_of, i_rng, c_none, c_some, s_set, s_setLc, s_asg, s_par, s_stI, s_ex, s_ret, s_if, s_rai, s_pass, b_nil, b_cons, M.opt_some, R.bind_ok, getE_0, getE_s, List.map_cons, List.map_nil, List.cons_append, List.nil_append, List.length_cons, List.length_nil, List.replicate_succ, List.replicate_zero, Nat.reduceSub, Nat.reduceAdd, List.set_cons_zero, List.set_cons_succ, Option.map_some, BT.nm, wipeE, seqK_n, seqK_r, andK_t, andK_f, orK_f, orK_t, iteK_t, iteK_f, asgK_nm, asgK_t2, asgK_t3, endF_n, endF_r, slI_i, toBl_b, vw_i, vw_b, vw_t, vw_tI, vw_tT, vw_l, vw_s, vw_n, vw_ty, src_t, src_tI, src_tT, src_l, bin_add, bin_sub, neg_i, not_b, R.bind_assoc]; rw [rng_1 (by decide), rangeD_n]; rfl) (fun i ρ S' => ∃ hu t10 t11, ρ = env1 ns n ss hu t10 t11 ∧ Tn ns [] (100 + 7 * i) S' ∧ (0 < i → ∃ c, hu = some (tI c) ∧ hueOk n c)) _ ⟨none, none, none, rfl, ht2, by simp⟩ (fun i d ρ S' hx hI => ?_) (fun ρ S' hI => ?_)
      · obtain ⟨hu, t10, t11, rfl, ht, _⟩ := hI
        have hi : i < 3 := by
          have := (List.getElem?_eq_some_iff.mp hx).1
          simpa using this
        refine ⟨env1 ns n ss hu (some d) t11, rfl, (turn_ok F (by omega) ht hu (some d) t11).mono fun f S' hf => ?_⟩
        obtain ⟨c, t11, rfl, hc, ht'⟩ := hf
        exact ⟨_, _, _, rfl, ht'.mono (by omega), fun _ => ⟨c, rfl, hc⟩⟩
      · obtain ⟨hu, t10, t11, rfl, ht, hh⟩ := hI
        obtain ⟨c, rfl, hc⟩ := hh (by decide)
        exact ⟨c, t10, t11, rfl, hc, ht⟩
    refine Wp.bind (lp.mono fun f S3 hf => ?_)
    obtain ⟨c, t10, t11, rfl, hc, ht3⟩ := hf
    have hc1 := hc.1
    simp only [e_var, e_cst, e_ty, e_gfn, e_bin, e_cmp, e_chn, e_neg, e_nt, e_one, e_and, e_or, e_ite, e_tup, e_lst, e_idx, e_slc, o_none, o_some, e_call, e_blt, e_isi, a_nil, a_cons, i_of, i_rng, c_none, c_some, s_set, s_setLc, s_asg, s_par, s_stI, s_ex, s_ret, s_if, s_rai, s_pass, b_nil, b_cons, M.opt_some, R.bind_ok, getE_0, getE_s, List.map_cons, List.map_nil, List.cons_append, List.nil_append, List.length_cons, List.length_nil, List.replicate_succ, List.replicate_zero, Nat.reduceSub, Nat.reduceAdd, List.set_cons_zero, List.set_cons_succ, Option.map_some, BT.nm, wipeE, seqK_n, seqK_r, andK_t, andK_f, orK_f, orK_t, iteK_t, iteK_f, asgK_nm, asgK_t2, asgK_t3, endF_n, endF_r, slI_i, toBl_b, vw_i, vw_b, vw_t, vw_tI, vw_tT, vw_l, vw_s, vw_n, vw_ty, src_t, src_tI, src_tT, src_l, bin_add, bin_sub, neg_i, not_b, R.bind_assoc, env1]
    rw [lcE_map (List.range n.toNat) (fun i : Nat => D.int (i : Int)) (fun i => D.int (deg ss (i : Int) : Int)) (by
      simp only [e_var, e_cst, e_ty, e_gfn, e_bin, e_cmp, e_chn, e_neg, e_nt, e_one, e_and, e_or, e_ite, e_tup, e_lst, e_idx, e_slc, o_none, o_some, e_call, e_blt, e_isi, a_nil, a_cons, i_of, i_rng, c_none, c_some, s_set, s_setLc, s_asg, s_par, s_stI, s_ex, s_ret, s_if, s_rai, s_pass, b_nil, b_cons, M.opt_some, R.bind_ok, getE_0, getE_s, List.map_cons, List.map_nil, List.cons_append, List.nil_append, List.length_cons, List.length_nil, List.replicate_succ, List.replicate_zero, Nat.reduceSub, Nat.reduceAdd, List.set_cons_zero, List.set_cons_succ, Option.map_some, BT.nm, wipeE, seqK_n, seqK_r, andK_t, andK_f, orK_f, orK_t, iteK_t, iteK_f, asgK_nm, asgK_t2, asgK_t3, endF_n, endF_r, slI_i, toBl_b, vw_i, vw_b, vw_t, vw_tI, vw_tT, vw_l, vw_s, vw_n, vw_ty, src_t, src_tI, src_tT, src_l, bin_add, bin_sub, neg_i, not_b, R.bind_assoc]
      rw [rng_1 (by omega), rangeD_n]
      simp only [e_var, e_cst, e_ty, e_gfn, e_bin, e_cmp, e_chn, e_neg, e_nt, e_one, e_and, e_or, e_ite, e_tup, e_lst, e_idx, e_slc, o_none, o_some, e_call, e_blt, e_isi, a_nil, a_cons, i_of, i_rng, c_none, c_some, s_set, s_setLc, s_asg, s_par, s_stI, s_ex, s_ret, s_if, s_rai, s_pass, b_nil, b_cons, M.opt_some, R.bind_ok, getE_0, getE_s, List.map_cons, List.map_nil, List.cons_append, List.nil_append, List.length_cons, List.length_nil, List.replicate_succ, List.replicate_zero, Nat.reduceSub, Nat.reduceAdd, List.set_cons_zero, List.set_cons_succ, Option.map_some, BT.nm, wipeE, seqK_n, seqK_r, andK_t, andK_f, orK_f, orK_t, iteK_t, iteK_f, asgK_nm, asgK_t2, asgK_t3, endF_n, endF_r, slI_i, toBl_b, vw_i, vw_b, vw_t, vw_tI, vw_tT, vw_l, vw_s, vw_n, vw_ty, src_t, src_tI, src_tT, src_l, bin_add, bin_sub, neg_i, not_b, R.bind_assoc]) (fun i hi => ⟨_, rfl, by
        simp only [e_var, e_cst, e_ty, e_gfn, e_bin, e_cmp, e_chn, e_neg, e_nt, e_one, e_and, e_or, e_ite, e_tup, e_lst, e_idx, e_slc, o_none, o_some, e_call, e_blt, e_isi, a_nil, a_cons, i_of, i_rng, c_none, c_some, s_set, s_setLc, s_asg, s_par, s_stI, s_ex, s_ret, s_if, s_rai, s_pass, b_nil, b_cons, M.opt_some, R.bind_ok, getE_0, getE_s, List.map_cons, List.map_nil, List.cons_append, List.nil_append, List.length_cons, List.length_nil, List.replicate_succ, List.replicate_zero, Nat.reduceSub, Nat.reduceAdd, List.set_cons_zero, List.set_cons_succ, Option.map_some, BT.nm, wipeE, seqK_n, seqK_r, andK_t, andK_f, orK_f, orK_t, iteK_t, iteK_f, asgK_nm, asgK_t2, asgK_t3, endF_n, endF_r, slI_i, toBl_b, vw_i, vw_b, vw_t, vw_tI, vw_tT, vw_l, vw_s, vw_n, vw_ty, src_t, src_tI, src_tT, src_l, bin_add, bin_sub, neg_i, not_b, R.bind_assoc, ef, idx_t, atI_1]
        rw [lcE_eq ss tI (fun s => decide ((i : Int) ∈ s)) tI (by simp only [e_var, e_cst, e_ty, e_gfn, e_bin, e_cmp, e_chn, e_neg, e_nt, e_one, e_and, e_or, e_ite, e_tup, e_lst, e_idx, e_slc, o_none, o_some, e_call, e_blt, e_isi, a_nil, a_cons, i_of, i_rng, c_none, c_some, s_set, s_setLc, s_asg, s_par, s_stI, s_ex, s_ret, s_if, s_rai, s_pass, b_nil, b_cons, M.opt_some, R.bind_ok, getE_0, getE_s, List.map_cons, List.map_nil, List.cons_append, List.nil_append, List.length_cons, List.length_nil, List.replicate_succ, List.replicate_zero, Nat.reduceSub, Nat.reduceAdd, List.set_cons_zero, List.set_cons_succ, Option.map_some, BT.nm, wipeE, seqK_n, seqK_r, andK_t, andK_f, orK_f, orK_t, iteK_t, iteK_f, asgK_nm, asgK_t2, asgK_t3, endF_n, endF_r, slI_i, toBl_b, vw_i, vw_b, vw_t, vw_tI, vw_tT, vw_l, vw_s, vw_n, vw_ty, src_t, src_tI, src_tT, src_l, bin_add, bin_sub, neg_i, not_b, R.bind_assoc, ef, idx_t, atI_1]) (fun s hs => ⟨_, rfl, by simp only [e_var, e_cst, e_ty, e_gfn, e_bin, e_cmp, e_chn, e_neg, e_nt, e_one, e_and, e_or, e_ite, e_tup, e_lst, e_idx, e_slc, o_none, o_some, e_call, e_blt, e_isi, a_nil, a_cons, i_of, i_rng, c_none, c_some, s_set, s_setLc, s_asg, s_par, s_stI, s_ex, s_ret, s_if, s_rai, s_pass, b_nil, b_cons, M.opt_some, R.bind_ok, getE_0, getE_s, List.map_cons, List.map_nil, List.cons_append, List.nil_append, List.length_cons, List.length_nil, List.replicate_succ, List.replicate_zero, Nat.reduceSub, Nat.reduceAdd, List.set_cons_zero, List.set_cons_succ, Option.map_some, BT.nm, wipeE, seqK_n, seqK_r, andK_t, andK_f, orK_f, orK_t, iteK_t, iteK_f, asgK_nm, asgK_t2, asgK_t3, endF_n, endF_r, slI_i, toBl_b, vw_i, vw_b, vw_t, vw_tI, vw_tT, vw_l, vw_s, vw_n, vw_ty, src_t, src_tI, src_tT, src_l, bin_add, bin_sub, neg_i, not_b, R.bind_assoc, cin_tI], fun _ => by simp only [e_var, e_cst, e_ty, e_gfn, e_bin, e_cmp, e_chn, e_neg, e_nt, e_one, e_and, e_or, e_ite, e_tup, e_lst, e_idx, e_slc, o_none, o_some, e_call, e_blt, e_isi, a_nil, a_cons, i_of, i_rng, c_none, c_some, s_set, s_setLc, s_asg, s_par, s_stI, s_ex, s_ret, s_if, s_rai, s_pass, b_nil, b_cons, M.opt_some, R.bind_ok, getE_0, getE_s, List.map_cons, List.map_nil, List.cons_append, List.nil_append, List.length_cons, List.length_nil, List.replicate_succ, List.replicate_zero, Nat.reduceSub, Nat.reduceAdd, List.set_cons_zero, List.set_cons_succ, Option.map_some, BT.nm, wipeE, seqK_n, seqK_r, andK_t, andK_f, orK_f, orK_t, iteK_t, iteK_f, asgK_nm, asgK_t2, asgK_t3, endF_n, endF_r, slI_i, toBl_b, vw_i, vw_b, vw_t, vw_tI, vw_tT, vw_l, vw_s, vw_n, vw_ty, src_t, src_tI, src_tT, src_l, bin_add, bin_sub, neg_i, not_b, R.bind_assoc]⟩)]
        simp only [e_var, e_cst, e_ty, e_gfn, e_bin, e_cmp, e_chn, e_neg, e_nt, e_one, e_and, e_or, e_ite, e_tup, e_lst, e_idx, e_slc, o_none, o_some, e_call, e_blt, e_isi, a_nil, a_cons, i_of, i_rng, c_none, c_some, s_set, s_setLc, s_asg, s_par, s_stI, s_ex, s_ret, s_if, s_rai, s_pass, b_nil, b_cons, M.opt_some, R.bind_ok, getE_0, getE_s, List.map_cons, List.map_nil, List.cons_append, List.nil_append, List.length_cons, List.length_nil, List.replicate_succ, List.replicate_zero, Nat.reduceSub, Nat.reduceAdd, List.set_cons_zero, List.set_cons_succ, Option.map_some, BT.nm, wipeE, seqK_n, seqK_r, andK_t, andK_f, orK_f, orK_t, iteK_t, iteK_f, asgK_nm, asgK_t2, asgK_t3, endF_n, endF_r, slI_i, toBl_b, vw_i, vw_b, vw_t, vw_tI, vw_tT, vw_l, vw_s, vw_n, vw_ty, src_t, src_tI, src_tT, src_l, bin_add, bin_sub, neg_i, not_b, R.bind_assoc, len_l, List.length_map]
        rfl⟩)]
    simp only [e_var, e_cst, e_ty, e_gfn, e_bin, e_cmp, e_chn, e_neg, e_nt, e_one, e_and, e_or, e_ite, e_tup, e_lst, e_idx, e_slc, o_none, o_some, e_call, e_blt, e_isi, a_nil, a_cons, i_of, i_rng, c_none, c_some, s_set, s_setLc, s_asg, s_par, s_stI, s_ex, s_ret, s_if, s_rai, s_pass, b_nil, b_cons, M.opt_some, R.bind_ok, getE_0, getE_s, List.map_cons, List.map_nil, List.cons_append, List.nil_append, List.length_cons, List.length_nil, List.replicate_succ, List.replicate_zero, Nat.reduceSub, Nat.reduceAdd, List.set_cons_zero, List.set_cons_succ, Option.map_some, BT.nm, wipeE, seqK_n, seqK_r, andK_t, andK_f, orK_f, orK_t, iteK_t, iteK_f, asgK_nm, asgK_t2, asgK_t3, endF_n, endF_r, slI_i, toBl_b, vw_i, vw_b, vw_t, vw_tI, vw_tT, vw_l, vw_s, vw_n, vw_ty, src_t, src_tI, src_tT, src_l, bin_add, bin_sub, neg_i, not_b, R.bind_assoc]
    rw [max_m _ _ (by simp; omega)]
    simp only [e_var, e_cst, e_ty, e_gfn, e_bin, e_cmp, e_chn, e_neg, e_nt, e_one, e_and, e_or, e_ite, e_tup, e_lst, e_idx, e_slc, o_none, o_some, e_call, e_blt, e_isi, a_nil, a_cons, i_of, i_rng, c_none, c_some, s_set, s_setLc, s_asg, s_par, s_stI, s_ex, s_ret, s_if, s_rai, s_pass, b_nil, b_cons, M.opt_some, R.bind_ok, getE_0, getE_s, List.map_cons, List.map_nil, List.cons_append, List.nil_append, List.length_cons, List.length_nil, List.replicate_succ, List.replicate_zero, Nat.reduceSub, Nat.reduceAdd, List.set_cons_zero, List.set_cons_succ, Option.map_some, BT.nm, wipeE, seqK_n, seqK_r, andK_t, andK_f, orK_f, orK_t, iteK_t, iteK_f, asgK_nm, asgK_t2, asgK_t3, endF_n, endF_r, slI_i, toBl_b, vw_i, vw_b, vw_t, vw_tI, vw_tT, vw_l, vw_s, vw_n, vw_ty, src_t, src_tI, src_tT, src_l, bin_add, bin_sub, neg_i, not_b, R.bind_assoc]
    rw [show maxL ((List.range n.toNat).map fun a : Nat => (deg ss (a : Int) : Int)) = often n.toNat ss from rfl]
    have hbk := beck F
    have ho := often_le F
    rw [bin_mul (by
      have h2 : (2 : Int).natAbs.log2 < 1000 := by decide
      have h3 : (often n.toNat ss).natAbs.log2 < 1000 := log_le (Nat.lt_of_le_of_lt (m := 8) (by omega) (by decide +kernel)) (by decide)
      omega)]
    simp only [e_var, e_cst, e_ty, e_gfn, e_bin, e_cmp, e_chn, e_neg, e_nt, e_one, e_and, e_or, e_ite, e_tup, e_lst, e_idx, e_slc, o_none, o_some, e_call, e_blt, e_isi, a_nil, a_cons, i_of, i_rng, c_none, c_some, s_set, s_setLc, s_asg, s_par, s_stI, s_ex, s_ret, s_if, s_rai, s_pass, b_nil, b_cons, M.opt_some, R.bind_ok, getE_0, getE_s, List.map_cons, List.map_nil, List.cons_append, List.nil_append, List.length_cons, List.length_nil, List.replicate_succ, List.replicate_zero, Nat.reduceSub, Nat.reduceAdd, List.set_cons_zero, List.set_cons_succ, Option.map_some, BT.nm, wipeE, seqK_n, seqK_r, andK_t, andK_f, orK_f, orK_t, iteK_t, iteK_f, asgK_nm, asgK_t2, asgK_t3, endF_n, endF_r, slI_i, toBl_b, vw_i, vw_b, vw_t, vw_tI, vw_tT, vw_l, vw_s, vw_n, vw_ty, src_t, src_tI, src_tT, src_l, bin_add, bin_sub, neg_i, not_b, R.bind_assoc, cmp_ge, decide_eq_false (show ¬ (2 * often n.toNat ss ≤ least n.toNat ss) by omega)]
    rw [bin_mod (by decide)]
    simp only [e_var, e_cst, e_ty, e_gfn, e_bin, e_cmp, e_chn, e_neg, e_nt, e_one, e_and, e_or, e_ite, e_tup, e_lst, e_idx, e_slc, o_none, o_some, e_call, e_blt, e_isi, a_nil, a_cons, i_of, i_rng, c_none, c_some, s_set, s_setLc, s_asg, s_par, s_stI, s_ex, s_ret, s_if, s_rai, s_pass, b_nil, b_cons, M.opt_some, R.bind_ok, getE_0, getE_s, List.map_cons, List.map_nil, List.cons_append, List.nil_append, List.length_cons, List.length_nil, List.replicate_succ, List.replicate_zero, Nat.reduceSub, Nat.reduceAdd, List.set_cons_zero, List.set_cons_succ, Option.map_some, BT.nm, wipeE, seqK_n, seqK_r, andK_t, andK_f, orK_f, orK_t, iteK_t, iteK_f, asgK_nm, asgK_t2, asgK_t3, endF_n, endF_r, slI_i, toBl_b, vw_i, vw_b, vw_t, vw_tI, vw_tT, vw_l, vw_s, vw_n, vw_ty, src_t, src_tI, src_tT, src_l, bin_add, bin_sub, neg_i, not_b, R.bind_assoc, cne_i]
    have odd : Wp (andK (.bl (!decide ((least n.toNat ss).fmod 2 = 0))) (fun S1 => (evE (runF (fsOf tab) 11) (.lc [12] (.of (.idx (.var 2) (.cst (.int 1)))) (.nm 12) (.some (.cmp .Eq (.bin .Mod (.blt .len (.cons (.var 12) .nil)) (.cst (.int 2))) (.cst (.int 1)))) (.var 12))
        [some (lI ns), some (.cell 0), some (fam n ss), some (.int n), some (.lst ((rows n.toNat).map tI)), some (sizes n ss), some (tI c), some (.int (least n.toNat ss)), some (tT (best n ss)), none, t10, t11, none, some (.int (often n.toNat ss)), none, none] S1).bind fun x S1 => M.opt (cmpB CmpOp.Eq (vw S1 x) (.lst [])) S1) S3) (fun d S => d = .bl false ∧ S = S3) := by
      by_cases hz : (least n.toNat ss).fmod 2 = 0
      · simp only [decide_eq_true hz, Bool.not_true, andK_f]
        exact ⟨rfl, rfl⟩
      · simp only [decide_eq_false hz, Bool.not_false, andK_t]
        rw [lcE_eq ss tI (fun s => decide ((s.length : Int).fmod 2 = 1)) tI (by simp only [e_var, e_cst, e_ty, e_gfn, e_bin, e_cmp, e_chn, e_neg, e_nt, e_one, e_and, e_or, e_ite, e_tup, e_lst, e_idx, e_slc, o_none, o_some, e_call, e_blt, e_isi, a_nil, a_cons, i_of, i_rng, c_none, c_some, s_set, s_setLc, s_asg, s_par, s_stI, s_ex, s_ret, s_if, s_rai, s_pass, b_nil, b_cons, M.opt_some, R.bind_ok, getE_0, getE_s, List.map_cons, List.map_nil, List.cons_append, List.nil_append, List.length_cons, List.length_nil, List.replicate_succ, List.replicate_zero, Nat.reduceSub, Nat.reduceAdd, List.set_cons_zero, List.set_cons_succ, Option.map_some, BT.nm, wipeE, seqK_n, seqK_r, andK_t, andK_f, orK_f, orK_t, iteK_t, iteK_f, asgK_nm, asgK_t2, asgK_t3, endF_n, endF_r, slI_i, toBl_b, vw_i, vw_b, vw_t, vw_tI, vw_tT, vw_l, vw_s, vw_n, vw_ty, src_t, src_tI, src_tT, src_l, bin_add, bin_sub, neg_i, not_b, R.bind_assoc, ef, idx_t, atI_1]) (fun s hs => ⟨_, rfl, by
          simp only [e_var, e_cst, e_ty, e_gfn, e_bin, e_cmp, e_chn, e_neg, e_nt, e_one, e_and, e_or, e_ite, e_tup, e_lst, e_idx, e_slc, o_none, o_some, e_call, e_blt, e_isi, a_nil, a_cons, i_of, i_rng, c_none, c_some, s_set, s_setLc, s_asg, s_par, s_stI, s_ex, s_ret, s_if, s_rai, s_pass, b_nil, b_cons, M.opt_some, R.bind_ok, getE_0, getE_s, List.map_cons, List.map_nil, List.cons_append, List.nil_append, List.length_cons, List.length_nil, List.replicate_succ, List.replicate_zero, Nat.reduceSub, Nat.reduceAdd, List.set_cons_zero, List.set_cons_succ, Option.map_some, BT.nm, wipeE, seqK_n, seqK_r, andK_t, andK_f, orK_f, orK_t, iteK_t, iteK_f, asgK_nm, asgK_t2, asgK_t3, endF_n, endF_r, slI_i, toBl_b, vw_i, vw_b, vw_t, vw_tI, vw_tT, vw_l, vw_s, vw_n, vw_ty, src_t, src_tI, src_tT, src_l, bin_add, bin_sub, neg_i, not_b, R.bind_assoc, len_tI]
          rw [bin_mod (by decide)]
          simp only [e_var, e_cst, e_ty, e_gfn, e_bin, e_cmp, e_chn, e_neg, e_nt, e_one, e_and, e_or, e_ite, e_tup, e_lst, e_idx, e_slc, o_none, o_some, e_call, e_blt, e_isi, a_nil, a_cons, i_of, i_rng, c_none, c_some, s_set, s_setLc, s_asg, s_par, s_stI, s_ex, s_ret, s_if, s_rai, s_pass, b_nil, b_cons, M.opt_some, R.bind_ok, getE_0, getE_s, List.map_cons, List.map_nil, List.cons_append, List.nil_append, List.length_cons, List.length_nil, List.replicate_succ, List.replicate_zero, Nat.reduceSub, Nat.reduceAdd, List.set_cons_zero, List.set_cons_succ, Option.map_some, BT.nm, wipeE, seqK_n, seqK_r, andK_t, andK_f, orK_f, orK_t, iteK_t, iteK_f, asgK_nm, asgK_t2, asgK_t3, endF_n, endF_r, slI_i, toBl_b, vw_i, vw_b, vw_t, vw_tI, vw_tT, vw_l, vw_s, vw_n, vw_ty, src_t, src_tI, src_tT, src_l, bin_add, bin_sub, neg_i, not_b, R.bind_assoc, ceq_i], fun _ => by simp only [e_var, e_cst, e_ty, e_gfn, e_bin, e_cmp, e_chn, e_neg, e_nt, e_one, e_and, e_or, e_ite, e_tup, e_lst, e_idx, e_slc, o_none, o_some, e_call, e_blt, e_isi, a_nil, a_cons, i_of, i_rng, c_none, c_some, s_set, s_setLc, s_asg, s_par, s_stI, s_ex, s_ret, s_if, s_rai, s_pass, b_nil, b_cons, M.opt_some, R.bind_ok, getE_0, getE_s, List.map_cons, List.map_nil, List.cons_append, List.nil_append, List.length_cons, List.length_nil, List.replicate_succ, List.replicate_zero, Nat.reduceSub, Nat.reduceAdd, List.set_cons_zero, List.set_cons_succ, Option.map_some, BT.nm, wipeE, seqK_n, seqK_r, andK_t, andK_f, orK_f, orK_t, iteK_t, iteK_f, asgK_nm, asgK_t2, asgK_t3, endF_n, endF_r, slI_i, toBl_b, vw_i, vw_b, vw_t, vw_tI, vw_tT, vw_l, vw_s, vw_n, vw_ty, src_t, src_tI, src_tT, src_l, bin_add, bin_sub, neg_i, not_b, R.bind_assoc]⟩)]
        simp only [e_var, e_cst, e_ty, e_gfn, e_bin, e_cmp, e_chn, e_neg, e_nt, e_one, e_and, e_or, e_ite, e_tup, e_lst, e_idx, e_slc, o_none, o_some, e_call, e_blt, e_isi, a_nil, a_cons, i_of, i_rng, c_none, c_some, s_set, s_setLc, s_asg, s_par, s_stI, s_ex, s_ret, s_if, s_rai, s_pass, b_nil, b_cons, M.opt_some, R.bind_ok, getE_0, getE_s, List.map_cons, List.map_nil, List.cons_append, List.nil_append, List.length_cons, List.length_nil, List.replicate_succ, List.replicate_zero, Nat.reduceSub, Nat.reduceAdd, List.set_cons_zero, List.set_cons_succ, Option.map_some, BT.nm, wipeE, seqK_n, seqK_r, andK_t, andK_f, orK_f, orK_t, iteK_t, iteK_f, asgK_nm, asgK_t2, asgK_t3, endF_n, endF_r, slI_i, toBl_b, vw_i, vw_b, vw_t, vw_tI, vw_tT, vw_l, vw_s, vw_n, vw_ty, src_t, src_tI, src_tT, src_l, bin_add, bin_sub, neg_i, not_b, R.bind_assoc, ceq_lT0]
        obtain ⟨s, hs, ho⟩ := least_par F (by rw [← Int.fmod_eq_emod_of_nonneg _ (by decide)]; exact hz)
        have hne : ss.filter (fun s => decide ((s.length : Int).fmod 2 = 1)) ≠ [] := fun z => by
          have : s ∈ ss.filter (fun s => decide ((s.length : Int).fmod 2 = 1)) := List.mem_filter.mpr ⟨hs, by rw [Int.fmod_eq_emod_of_nonneg _ (by decide), ho]; rfl⟩
          rw [z] at this
          cases this
        rw [decide_eq_false hne]
        exact ⟨rfl, rfl⟩
    refine Wp.bind (odd.mono fun d S4 hd => ?_)
    obtain ⟨rfl, rfl⟩ := hd
    have hb1 : (c.map D.int).length + [D.int 1].length ≤ line := by
      rw [List.length_map]
      show c.length + 1 ≤ 16777216
      omega
    have hb2 : [D.int 0].length + ((c.map D.int).drop 1).length ≤ line := by
      rw [List.length_drop, List.length_map]
      show 1 + (c.length - 1) ≤ 16777216
      omega
    have m1 : binD .Mult (.tup [.bl true]) (.int n) = some (.tup (List.replicate n.toNat (.bl true))) := by
      refine (if_pos ⟨by omega, by omega, by simp, by simp⟩).trans ?_
      simp
    have m2 : binD .Mult (.tup [.str "1"]) (.int n) = some (.tup (List.replicate n.toNat (.str "1"))) := by
      refine (if_pos ⟨by omega, by omega, by simp, by simp⟩).trans ?_
      simp
    have sl : sliceD (some 1) none (tI c) = some (.tup ((c.map D.int).drop 1)) := by
      show some (D.tup (cutD (c.map D.int) (some 1) none)) = _
      rw [cut1]
    have a1 : binD .Add (tI c) (.tup [.int 1]) = some (.tup (c.map D.int ++ [.int 1])) := bin_addT hb1
    have a2 : binD .Add (.tup [.int 0]) (.tup ((c.map D.int).drop 1)) = some (.tup (.int 0 :: (c.map D.int).drop 1)) := bin_addT hb2
    have a3 : fB .list S4 [tI c] = some (.lst (c.map D.int)) := rfl
    simp only [e_var, e_cst, e_ty, e_gfn, e_bin, e_cmp, e_chn, e_neg, e_nt, e_one, e_and, e_or, e_ite, e_tup, e_lst, e_idx, e_slc, o_none, o_some, e_call, e_blt, e_isi, a_nil, a_cons, i_of, i_rng, c_none, c_some, s_set, s_setLc, s_asg, s_par, s_stI, s_ex, s_ret, s_if, s_rai, s_pass, b_nil, b_cons, M.opt_some, R.bind_ok, getE_0, getE_s, List.map_cons, List.map_nil, List.cons_append, List.nil_append, List.length_cons, List.length_nil, List.replicate_succ, List.replicate_zero, Nat.reduceSub, Nat.reduceAdd, List.set_cons_zero, List.set_cons_succ, Option.map_some, BT.nm, wipeE, seqK_n, seqK_r, andK_t, andK_f, orK_f, orK_t, iteK_t, iteK_f, asgK_nm, asgK_t2, asgK_t3, endF_n, endF_r, slI_i, toBl_b, vw_i, vw_b, vw_t, vw_tI, vw_tT, vw_l, vw_s, vw_n, vw_ty, src_t, src_tI, src_tT, src_l, bin_add, bin_sub, neg_i, not_b, R.bind_assoc, a1, sl, a3, a2, m1, m2]
    rw [lcE_eq ([.non, .tup [], .tup (c.map D.int ++ [.int 1]), .tup ((c.map D.int).drop 1), .lst (c.map D.int), .tup (.int 0 :: (c.map D.int).drop 1), .tup (List.replicate n.toNat (.bl true)), .tup (List.replicate n.toNat (.str "1"))] : List D) id (fun _ => false) id (by rw [List.map_id]; simp only [e_var, e_cst, e_ty, e_gfn, e_bin, e_cmp, e_chn, e_neg, e_nt, e_one, e_and, e_or, e_ite, e_tup, e_lst, e_idx, e_slc, o_none, o_some, e_call, e_blt, e_isi, a_nil, a_cons, i_of, i_rng, c_none, c_some, s_set, s_setLc, s_asg, s_par, s_stI, s_ex, s_ret, s_if, s_rai, s_pass, b_nil, b_cons, M.opt_some, R.bind_ok, getE_0, getE_s, List.map_cons, List.map_nil, List.cons_append, List.nil_append, List.length_cons, List.length_nil, List.replicate_succ, List.replicate_zero, Nat.reduceSub, Nat.reduceAdd, List.set_cons_zero, List.set_cons_succ, Option.map_some, BT.nm, wipeE, seqK_n, seqK_r, andK_t, andK_f, orK_f, orK_t, iteK_t, iteK_f, asgK_nm, asgK_t2, asgK_t3, endF_n, endF_r, slI_i, toBl_b, vw_i, vw_b, vw_t, vw_tI, vw_tT, vw_l, vw_s, vw_n, vw_ty, src_t, src_tI, src_tT, src_l, bin_add, bin_sub, neg_i, not_b, R.bind_assoc]) (fun x hx => ⟨_, rfl, by
      have := bads_ok F hc S4 6 x hx
      simp only [id, e_var, e_cst, e_ty, e_gfn, e_bin, e_cmp, e_chn, e_neg, e_nt, e_one, e_and, e_or, e_ite, e_tup, e_lst, e_idx, e_slc, o_none, o_some, e_call, e_blt, e_isi, a_nil, a_cons, i_of, i_rng, c_none, c_some, s_set, s_setLc, s_asg, s_par, s_stI, s_ex, s_ret, s_if, s_rai, s_pass, b_nil, b_cons, M.opt_some, R.bind_ok, getE_0, getE_s, List.map_cons, List.map_nil, List.cons_append, List.nil_append, List.length_cons, List.length_nil, List.replicate_succ, List.replicate_zero, Nat.reduceSub, Nat.reduceAdd, List.set_cons_zero, List.set_cons_succ, Option.map_some, BT.nm, wipeE, seqK_n, seqK_r, andK_t, andK_f, orK_f, orK_t, iteK_t, iteK_f, asgK_nm, asgK_t2, asgK_t3, endF_n, endF_r, slI_i, toBl_b, vw_i, vw_b, vw_t, vw_tI, vw_tT, vw_l, vw_s, vw_n, vw_ty, src_t, src_tI, src_tT, src_l, bin_add, bin_sub, neg_i, not_b, R.bind_assoc]
      rw [this]
      simp only [e_var, e_cst, e_ty, e_gfn, e_bin, e_cmp, e_chn, e_neg, e_nt, e_one, e_and, e_or, e_ite, e_tup, e_lst, e_idx, e_slc, o_none, o_some, e_call, e_blt, e_isi, a_nil, a_cons, i_of, i_rng, c_none, c_some, s_set, s_setLc, s_asg, s_par, s_stI, s_ex, s_ret, s_if, s_rai, s_pass, b_nil, b_cons, M.opt_some, R.bind_ok, getE_0, getE_s, List.map_cons, List.map_nil, List.cons_append, List.nil_append, List.length_cons, List.length_nil, List.replicate_succ, List.replicate_zero, Nat.reduceSub, Nat.reduceAdd, List.set_cons_zero, List.set_cons_succ, Option.map_some, BT.nm, wipeE, seqK_n, seqK_r, andK_t, andK_f, orK_f, orK_t, iteK_t, iteK_f, asgK_nm, asgK_t2, asgK_t3, endF_n, endF_r, slI_i, toBl_b, vw_i, vw_b, vw_t, vw_tI, vw_tT, vw_l, vw_s, vw_n, vw_ty, src_t, src_tI, src_tT, src_l, bin_add, bin_sub, neg_i, not_b, R.bind_assoc], fun z => (by cases z)⟩)]
    rw [List.filter_eq_nil_iff.mpr (by simp)]
    simp only [e_var, e_cst, e_ty, e_gfn, e_bin, e_cmp, e_chn, e_neg, e_nt, e_one, e_and, e_or, e_ite, e_tup, e_lst, e_idx, e_slc, o_none, o_some, e_call, e_blt, e_isi, a_nil, a_cons, i_of, i_rng, c_none, c_some, s_set, s_setLc, s_asg, s_par, s_stI, s_ex, s_ret, s_if, s_rai, s_pass, b_nil, b_cons, M.opt_some, R.bind_ok, getE_0, getE_s, List.map_cons, List.map_nil, List.cons_append, List.nil_append, List.length_cons, List.length_nil, List.replicate_succ, List.replicate_zero, Nat.reduceSub, Nat.reduceAdd, List.set_cons_zero, List.set_cons_succ, Option.map_some, BT.nm, wipeE, seqK_n, seqK_r, andK_t, andK_f, orK_f, orK_t, iteK_t, iteK_f, asgK_nm, asgK_t2, asgK_t3, endF_n, endF_r, slI_i, toBl_b, vw_i, vw_b, vw_t, vw_tI, vw_tT, vw_l, vw_s, vw_n, vw_ty, src_t, src_tI, src_tT, src_l, bin_add, bin_sub, neg_i, not_b, R.bind_assoc, List.map_nil]
    rfl
  obtain ⟨d, S, e, rfl⟩ := main.get
  exact ⟨S, e⟩
end LC

set_option maxHeartbeats 0
namespace LC
open PySem PySem.Spec PyProof.Rows L2
def fn : List He.DefD := tab.map (ddOf top)
def fa : List He.Fa := faOf tab frees excs
abbrev Rw : PySem.W.OpenRow := PySem.W.OpenLaw.row PySem.Challenge.rw_lotcolours_k20_whole_colours
abbrev hk : PySem.W.Hook := He.hookD 4 fa fn
def ob (s : PySem.W.SharedT) : He.AlD := He.obsDG 4 fa fn (HandSHeadRun.getT s)
theorem ob_eq (s : PySem.W.SharedT) : ob s = hk.obs s.abs := He.obsDG_eq (HandSHeadRun.getT_eq s)
def loose1 : List Str := ["is_between", "is_lot", "is_family", "check_family", "are_colours", "is_colours", "check_both", "found_sums", "found_uneven", "sums", "uneven", "all_colours", "found_least", "least_uneven", "all_best", "_law_town", "_law_draw", "_law_family", "_law_all", "_law_sums", "_law_uneven", "_law_hues", "ColourError", "InvalidFamily", "InvalidColours"]
def loose2 : List Str := []
theorem run (w : World) : HandSHeadRun.RunEq Rw (PySem.W.view Rw.prog [30]) hk ob 4000 (loose1 ++ loose2) w := by
  intro os
  kernel_rfl
end LC
open PySem PySem.W PySem.Calls PyProof.Rows
theorem PySem.Challenge.cw_lotcolours_k20_whole_colours_holds : PySem.Challenge.rw_lotcolours_k20_whole_colours.Holds := by
  w_on; o_law
  refine HandSHeadRun.head_any (r := OpenLaw.row PySem.Challenge.rw_lotcolours_k20_whole_colours) (q := view (OpenLaw.row PySem.Challenge.rw_lotcolours_k20_whole_colours).prog [30]) (H := LC.hk) (ob := LC.ob) (M := 4000) (loose := LC.loose1 ++ LC.loose2) (d := HandSHeadRun.topDef (OpenLaw.row PySem.Challenge.rw_lotcolours_k20_whole_colours).prog 30) (kwd := []) LC.ob_eq
    (by kernel_rfl) (fun s => by kernel_rfl) LC.run (by kernel_rfl) (by kernel_rfl) (by kernel_rfl) (by rfl) (by first | assumption | decide +kernel) (by decide +kernel) ⟨rfl, rfl, rfl, rfl, rfl, by decide +kernel⟩ ?hw ?hc
  case hw => w_witness2
  case hc =>
    refine LC.walk_end (l := PySem.Challenge.rw_lotcolours_k20_whole_colours) (n := 63) (k := 12) (x := "law") (top := LC.top) (t := LC.tab) (frees := LC.frees) (excs := LC.excs) (F := ⟨1, 16, LC.b_law⟩) rfl (by decide) (by kernel_rfl) ⟨rfl, by decide, by decide⟩ (by kernel_rfl) (by kernel_rfl) rfl (fun w h y => y) LC.chk LC.law_ok
