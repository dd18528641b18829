import PyProof.Rows.All
import Wide.All
import OpenK.AllK
import Wide.FinOn
import KE.KStateDown
import HandS.ForMost
import HandS.Exc
import HandS.ExcOwn
import HandS.WordsExc
import HandS.Defaults
import HandS.Deep
import HandS.TupAny
import HandS.TupMul
import HandS.Wide
import HandS.Style
import HandS.IsInst
import HandS.ExcValue
import KE.SortData
import HandS.Zip
import HandS.HeadHook1
import HandS.ExcIs
import HandS.HeadHook2
import HandS.HeadHook4
import HandS.Head0
import HandS.Head1
import HandS.Head2
import HandS.SetFor
import KE.GoesEnum
import KE.GoesMore
import HandS.Conv
import KE.KDictZip
import HandS.Codes
import HandS.HeadEnd
import KE.Datum
import PySem.Challenge.RW_lotcolours_k40_whole_lots
set_option Elab.async false
set_option linter.all false
set_option maxRecDepth 100000
set_option autoImplicit false
section
set_option maxHeartbeats 200000
/-! LC1: a small language with slots, its values, its evaluator. -/
namespace LC
open PySem

/-! ### values -/
inductive D where
  | non | bl (b : Bool) | int (i : Int) | str (x : Str) | tup (xs : List D) | lst (xs : List D) | cell (n : Nat) | fn (x : Str) | exc (x : Str) | ty (n : String)
inductive Cell where
  | lst (xs : List D)
  | dI (kvs : List (Int × D))
  | dT (kvs : List (List Int × D))
  | ins (c : Str) (fs : List (Str × D))
abbrev Store := List Cell
inductive R (α : Type) where
  | ok (a : α) (S : Store)
  | exc (x : Str) (S : Store)
  | bad
abbrev M (α : Type) := Store → R α
abbrev Env := List (Option D)
def M.pure {α : Type} (a : α) : M α := fun S => .ok a S
def M.bad {α : Type} : M α := fun _ => .bad
def R.bind {α β : Type} (r : R α) (f : α → M β) : R β := match r with
  | .ok a S => f a S
  | .exc x S => .exc x S
  | .bad => .bad
def M.bind {α β : Type} (m : M α) (f : α → M β) : M β := fun S => (m S).bind f
/-- a value that may not be there -/
def M.opt {α : Type} : Option α → M α
  | some a => M.pure a
  | none => M.bad
@[simp] theorem R.bind_ok {α β : Type} (a : α) (S : Store) (f : α → M β) : (R.ok a S).bind f = f a S := (rfl)
@[simp] theorem R.bind_exc {α β : Type} (x : Str) (S : Store) (f : α → M β) : (R.exc x S : R α).bind f = .exc x S := (rfl)
@[simp] theorem R.bind_bad {α β : Type} (f : α → M β) : (R.bad : R α).bind f = .bad := (rfl)
@[simp] theorem M.bind_ap {α β : Type} (m : M α) (f : α → M β) (S : Store) : M.bind m f S = (m S).bind f := (rfl)
@[simp] theorem M.pure_ap {α : Type} (a : α) (S : Store) : M.pure a S = .ok a S := (rfl)
@[simp] theorem M.bad_ap {α : Type} (S : Store) : (M.bad : M α) S = .bad := (rfl)
@[simp] theorem M.opt_some {α : Type} (a : α) (S : Store) : M.opt (some a) S = .ok a S := (rfl)
@[simp] theorem M.opt_none {α : Type} (S : Store) : M.opt (none : Option α) S = .bad := (rfl)

/-! ### shapes, equality -/
mutual
def D.sh : D → Nat → Bool
  | .tup xs, n + 1 => D.shA xs n
  | .lst xs, n + 1 => D.shA xs n
  | .tup _, 0 => false
  | .lst _, 0 => false
  | .non, _ => true
  | .bl _, _ => true
  | .int _, _ => true
  | .str x, _ => PyData.strOk x
  | .cell _, _ => false
  | .fn _, _ => false
  | .exc _, _ => false
  | .ty _, _ => false
def D.shA : List D → Nat → Bool
  | [], _ => true
  | d :: ds, n => D.sh d n && D.shA ds n
end
mutual
def D.pd : D → PyData
  | .tup xs => .tuple (D.pdA xs)
  | .lst xs => .list (D.pdA xs)
  | .non => .none
  | .bl b => .bool b
  | .int i => .int i
  | .str x => .str x
  | .cell _ => .none
  | .fn _ => .none
  | .exc _ => .none
  | .ty _ => .none
def D.pdA : List D → List PyData
  | [] => []
  | d :: ds => D.pd d :: D.pdA ds
end
def D.eqb (a b : D) : Bool := PyData.eqv a.pd b.pd
def D.eqbA (a b : List D) : Bool := PyData.eqvAll (D.pdA a) (D.pdA b)
/-- the ints of a list that holds nothing else -/
def intsOf : List D → Option (List Int)
  | [] => some []
  | .int i :: r => (intsOf r).map (i :: ·)
  | _ :: _ => none
def blsOf : List D → Option (List Bool)
  | [] => some []
  | .bl b :: r => (blsOf r).map (b :: ·)
  | _ :: _ => none
/-- a list, read: one that stands in a cell too -/
def vwc (n : Nat) : Option Cell → D
  | some (.lst xs) => .lst xs
  | _ => .cell n
def vw (S : Store) : D → D
  | .cell n => vwc n S[n]?
  | d => d
def line : Nat := 16777216

/-! ### operations -/
def binD : Operator → D → D → Option D
  | .Add, .int a, .int b => some (.int (a + b))
  | .Sub, .int a, .int b => some (.int (a - b))
  | .Mult, .int a, .int b => if a.natAbs.log2 + b.natAbs.log2 < 1000000 then some (.int (a * b)) else none
  | .FloorDiv, .int a, .int b => if b ≠ 0 ∧ b.natAbs < 1073741824 ∨ 0 < b ∧ b.natAbs.log2 < 9000 then some (.int (a.fdiv b)) else none
  | .Mod, .int a, .int b => if b ≠ 0 then some (.int (a.fmod b)) else none
  | .Pow, .int a, .int b => if 0 ≤ b ∧ b ≤ 1000000 ∧ a.natAbs < 18446744073709551616 then some (.int (a ^ b.toNat)) else none
  | .Add, .tup a, .tup b => if a.length + b.length ≤ line then some (.tup (a ++ b)) else none
  | .Add, .lst a, .lst b => if a.length + b.length ≤ line then some (.lst (a ++ b)) else none
  | .Add, .str a, .str b => if a.length + b.length ≤ line then some (.str (a ++ b)) else none
  | .Mult, .tup a, .int k => if -1000 ≤ k ∧ k ≤ 1000 ∧ a ≠ [] ∧ a.length ≤ 1000 then some (.tup (List.replicate k.toNat a).flatten) else none
  | .Mult, .lst a, .int k => if -1000 ≤ k ∧ k ≤ 1000 ∧ a.length ≤ 1000 then some (.lst (List.replicate k.toNat a).flatten) else none
  | _, _, _ => none
def isNon : D → Bool
  | .non => true
  | _ => false
def cmpD : CmpOp → D → D → Option Bool
  | .Lt, .int a, .int b => some (decide (a < b))
  | .LtE, .int a, .int b => some (decide (a ≤ b))
  | .Gt, .int a, .int b => some (decide (b < a))
  | .GtE, .int a, .int b => some (decide (b ≤ a))
  | .Lt, .tup a, .tup b => match intsOf a, intsOf b with
    | some x, some y => some (HT.lexLt x y)
    | _, _ => none
  | .Eq, a, b => if a.sh 60 && b.sh 60 then some (a.eqb b) else none
  | .NotEq, a, b => if a.sh 60 && b.sh 60 then some (!a.eqb b) else none
  | .Is, .bl a, .bl b => some (decide (a = b))
  | .IsNot, .bl a, .bl b => some (!decide (a = b))
  | .Is, a, .non => some (isNon a)
  | .IsNot, a, .non => some (!isNon a)
  | .In, a, .lst xs => if a.sh 60 && D.shA xs 58 then some (xs.any fun x => x.eqb a) else none
  | .NotIn, a, .lst xs => if a.sh 60 && D.shA xs 58 then some (!xs.any fun x => x.eqb a) else none
  | .In, a, .tup xs => if a.sh 60 && D.shA xs 58 then some (xs.any fun x => x.eqb a) else none
  | .NotIn, a, .tup xs => if a.sh 60 && D.shA xs 58 then some (!xs.any fun x => x.eqb a) else none
  | _, _, _ => none
def seqOf : D → Option (List D)
  | .tup xs => some xs
  | .lst xs => some xs
  | _ => none
def idxD : D → D → Option D
  | .tup xs, .int i => L2.atI xs i
  | .lst xs, .int i => L2.atI xs i
  | _, _ => none
def cutD (xs : List D) (lo hi : Option Int) : List D := (xs.drop (HT.sIx xs.length 0 lo)).take (HT.sIx xs.length xs.length hi - HT.sIx xs.length 0 lo)
end LC

end
section
set_option maxHeartbeats 2000000
/-! LX1: try / except x as n, where the caught object stays known behind the clause. -/
namespace L2
open PySem PySem.Spec PyProof.Rows
/-- a caught exception's object of the class cls stands at a -/
def ExT (cls : Value) (d : Option Addr) (a : Addr) : HO := .ext fun h => ∃ (oe : Obj) (vs : Array Value), h.get? a = some oe ∧ Zc cls d oe ∧ oe.data = .fields vs
section
variable {X : Cx} {pins : List (Addr × Obj)} {σ : St} {H : Hp} {s : Shared} {a : Addr} {oe : Obj} {vs : Array Value} {cls : Value} {d : Option Addr}
theorem Inv.track (I : Inv X ((a, oe) :: pins) σ H s) (hz : Zc cls d oe) (hd : oe.data = .fields vs) (n0 : X.s_0.heap.get? a = none) (np : ∀ p ∈ X.pn ++ pins, p.1 ≠ a) : Inv X pins σ (upd H a (ExT cls d a)) s := by
  have hmem : ((a, oe) : Addr × Obj) ∈ X.pn ++ (a, oe) :: pins := List.mem_append_right _ List.mem_cons_self
  obtain ⟨ha, hn, hL, hF, hC⟩ := I.pin _ hmem
  have ha : s.heap.get? a = some oe := ha
  have hn : H a = none := hn
  have ne0 : ∀ b o, X.s_0.heap.get? b = some o → b ≠ a := fun b o e z => by
    subst z
    rw [n0] at e
    exact absurd e (by simp)
  have neS : ∀ b (o : HO), H b = some o → b ≠ a := fun b o e z => by
    subst z
    rw [hn] at e
    exact absurd e (by simp)
  have hob : ObjOk X.prog X.w (upd H a (ExT cls d a)) s.heap a (ExT cls d a) := ⟨⟨oe, vs, ha, hz, hd⟩, ⟨oe, ha⟩, fun _ _ ⟨o, v, q, r⟩ k => ⟨o, v, k o q, r⟩⟩
  refine ⟨I.ok, I.os, I.bare, ⟨I.base.keep, I.base.slot, fun b o e h1 h2 => ?_, I.base.there, fun b xs e => ?_, fun b o u e => ?_, fun b ps e => ?_⟩, I.loc, I.cell, ?_, fun x c e => ?_, fun p hp => ?_, I.hok.laidN (fun _ _ q => q) hn hob, I.len⟩
  · rw [upd_ne (ne0 b o e)]
    exact I.base.free b o e h1 h2
  · have q := I.base.tups b xs e
    rw [upd_ne (neS _ _ q)]
    exact q
  · have q := I.base.frzs b o u e
    rw [upd_ne (neS _ _ q)]
    exact q
  · obtain ⟨m, q⟩ := I.base.tbls b ps e
    exact ⟨m, by rw [upd_ne (neS _ _ q)]; exact q⟩
  · rw [upd_ne (Ne.symm hL)]
    exact I.free
  · have hca : c ≠ a := fun z => by
      obtain ⟨v, o, ho, hdv⟩ := I.cell x c e
      subst z
      rw [ha] at ho
      cases ho
      exact hC v hdv
    rw [upd_ne hca]
    exact I.freeC x c e
  · have hp' : p ∈ X.pn ++ (a, oe) :: pins := by
      rcases List.mem_append.mp hp with h | h
      · exact List.mem_append_left _ h
      · exact List.mem_append_right _ (List.mem_cons_of_mem _ h)
    obtain ⟨q1, q2, q3⟩ := I.pin p hp'
    exact ⟨q1, by rw [upd_ne (np p hp)]; exact q2, q3⟩
end
/-- what the clause wishes of the body's exception; its object stays known -/
def wKeep (K : PySem.W.Frag) (c : Value) (i : Nat) (ts : Addr → Value → Option Addr → TS) (Wout : WX) (D : Ends) : WX := fun cls d σ H =>
  ∃ b, PySem.W.exmOne K cls c = some b ∧ (b = true → ∀ a, H a = none → ts a cls d { nx := fun σ' H' => D.nx (σ'.set i none) (upd H' a (ExT cls d a)), rt := fun v H' => D.rt v (upd H' a (ExT cls d a)), bk := fun σ' H' => D.bk (σ'.set i none) (upd H' a (ExT cls d a)), ct := fun σ' H' => D.ct (σ'.set i none) (upd H' a (ExT cls d a)) } (σ.set i (some (.ref a))) H) ∧
    (b = false → Wout cls d σ H)
section
variable {X : Cx} {x n : Str} {c : Value} {i : Nat} {body suite : List Stmt} {b₀ : Stmt} {np pos pos' : Pos} {tb : WX → TS} {ts : Addr → Value → Option Addr → TS} {Wout : WX}
theorem ps_try_keep (hs : X.stack = X.env :: X.outer) (hf : X.env.frame = some X.env.locals) (hx0 : X.ex = []) (hN : X.N.Nodup) (hi : X.N[i]? = some n) (hln : X.env.kindOf n = some .local) (hc : Names X x c) (tk : Takes X Wout)
    (hb : ∀ (W : WX) (qn : List (Addr × Obj)) (ye : Value → Shared → Prop), Takes (X.tr qn ye) W → PassesOwn (model X.prog X.w) X.A X.env ye → PSs (X.tr qn ye) body (tb W))
    (hsu : ∀ (a : Addr) (oe : Obj) (cls : Value) (d : Option Addr) (qn : List (Addr × Obj)), Zc cls d oe → (∃ vs, oe.data = .fields vs) → PSs (X.suite a ((a, oe) :: qn)) (b₀ :: suite) (ts a cls d)) :
    PS X (.Try body [.ExceptHandler (some (.Name x np)) (some n) (b₀ :: suite) pos'] [] [] pos) (fun D σ H => tb (wKeep X.K c i ts Wout D) D σ H) := by
  refine ⟨fun pins s σ H D I h => ?_⟩
  have okX := I.ok
  have hframes : X.A.frames = some (X.env :: X.outer) := okX.frames.trans (by rw [hs])
  refine wpAny_Try_except (wpAny_mono ((hb (wKeep X.K c i ts Wout D) (X.pn ++ pins) (fun e t1 => wpAny (model X.prog X.w) X.A (noteFrame e X.env) (fun _ t2 => wpAny (model X.prog X.w) X.A (setFlight e none) (fun _ t3 =>
    wpAny (model X.prog X.w) X.A (handleBy e X.env [.ExceptHandler (some (.Name x np)) (some n) (b₀ :: suite) pos']) (SP X pins D) X.xe t3) X.xe t2) X.xe t1) (fun u t1 xx => ?ctch) PassesOwn.looking).run [] s σ H D (I.toTry _) h) (fun f t1 hsp => ?fini) (fun _ _ q => q))
  case fini =>
    cases f with
    | next =>
      obtain ⟨σ1, H1, J1, q⟩ := hsp
      exact wpAny_execs_nil ⟨σ1, H1, J1.ofTry okX, q⟩
    | ret u =>
      obtain ⟨v, σ1, H1, J1, r, q⟩ := hsp
      exact ⟨v, σ1, H1, J1.ofTry okX, r, q⟩
    | brk =>
      obtain ⟨σ1, H1, J1, q⟩ := hsp
      exact ⟨σ1, H1, J1.ofTry okX, q⟩
    | cont =>
      obtain ⟨σ1, H1, J1, q⟩ := hsp
      exact ⟨σ1, H1, J1.ofTry okX, q⟩
  case ctch =>
    obtain ⟨a, B, sB, qins, σ1, H1, cls, d, rfl, JT, below, upTo, sky0, nA, osE, bareE, b, hexm, yes, no⟩ := xx
    have J := JT.ofTry okX
    have sky1 : Sky B (X.env :: X.outer) a (Zc cls d) X.env.locals t1.heap := hs ▸ sky0
    have bNone : B.get? a = none := by
      rcases sky1 with z | z | z
      · exact z.2.1
      · exact z.2.1
      · exact z.2.1
    show wpAny (model X.prog X.w) X.A (noteFrame (.ref a) X.env) _ _ _
    refine Sky.land Zc.steady hframes hf sky1 fun h3 fl3 up3 => ?_
    have J3 : Inv X pins σ1 H1 { t1 with heap := h3 } := J.landed below fl3.1 (upTo.trans up3) osE bareE
    obtain ⟨oe3, vs3, at3, z3, dt3⟩ := fl3.there
    have aFr : a ∉ frs (X.env :: X.outer) := fun hm => by
      obtain ⟨_, o', e', hnf⟩ := fl3.2.2.1.mem hm
      have e' : h3.get? a = some o' := e'
      rw [at3] at e'
      cases e'
      exact hnf _ dt3
    have aL : a ≠ X.env.locals := fun z => aFr (List.mem_filterMap.mpr ⟨X.env, List.mem_cons_self, z ▸ hf⟩)
    have aF : a ∉ X.fs := fun hm => by
      obtain ⟨e, he, q⟩ := List.mem_filterMap.mp hm
      exact aFr (List.mem_filterMap.mpr ⟨e, List.mem_cons_of_mem _ he, q⟩)
    have aNew : sB.heap.get? a = none := by
      cases q : sB.heap.get? a with
      | none => rfl
      | some o =>
        have := below a o q (by rw [hs]; exact aFr)
        rw [bNone] at this
        cases this
    have a0 : X.s_0.heap.get? a = none := by
      cases q : X.s_0.heap.get? a with
      | none => rfl
      | some o =>
        obtain ⟨o', q'⟩ := J.base.there a o q (by rw [hx0]; simp)
        rw [aNew] at q'
        cases q'
    have apin : ∀ p ∈ X.pn ++ pins, p.1 ≠ a := fun p hp z => by
      have := (J.pin p hp).1
      rw [z, aNew] at this
      cases this
    have S3 := J3.suite at3 dt3 nA aL aF
    refine wpAny_handleBy_cons (codeAny_handlers_test ?_) (by intro q; cases q)
    have looks : PySem.W.Looks (model X.prog X.w) h3 (typeOf (.ref a)) cls := fun A Q E s k q => wpAny_typeOf_ref (k _ _ at3) (z3.1.symm ▸ q)
    have looks2 := PySem.W.exm_one (M := model X.prog X.w) (J3.kIn) looks hexm
    have named : ∀ {Q : Value → Shared → Prop} {E : Value → Shared → Prop}, Q c { t1 with heap := h3 } → wpAny (model X.prog X.w) (X.A.mark (some (.ref a))) (eval (.Name x np) X.env) Q E { t1 with heap := h3 } := fun {Q E} q => by
      obtain ⟨hg, hdbg, hm | ⟨hm, hv, hnn⟩⟩ := hc
      · exact ld_glob (X := X.suite a ((a, oe3) :: (X.pn ++ pins))) S3 hg hm q hdbg
      · exact ld_blt (X := X.suite a ((a, oe3) :: (X.pn ++ pins))) S3 hg hm hv q hnn hdbg
    refine named (looks2.here ?_)
    cases b with
    | false =>
      show wpAny _ X.A (handleBy (.ref a) X.env []) _ _ _
      refine wpAny_handleBy_nil ?_
      obtain ⟨k1, k2, k3, oe, vs, T, oT, ts', hAt, hZ, hD, h1, hR⟩ := id fl3
      unfold PySem.passOn
      refine wpAny_bind (wpAny_field hAt hD h1 ?_)
      rw [if_neg (show ¬ ((Value.ref T == Value.none) = true) from by simp)]
      have ends : wpAny (model X.prog X.w) X.A (setFlight (.ref a) X.env.frame) (fun _ t4 => wpAny (model X.prog X.w) X.A (throw (.ref a) : Sem Flow) (SP X pins D) X.xe t4) X.xe { t1 with heap := h3 } := by
        rw [hf]
        refine HandSPX.setFlight_upZ fl3 fun h4 hh4 up4 => wpAny_throw (tk _ _ ?_)
        exact ⟨a, B, sB, pins, σ1, H1, cls, d, rfl, J, below, (upTo.trans up3).trans up4, .inr (.inr (by rw [hs]; exact hh4)), nA, osE, bareE, no rfl⟩
      first
        | exact wpAny_bind (wpAny_pure (wpAny_bind ends))
        | exact wpAny_bind ends
    | true =>
      refine codeAny_handlers_suite_as (HandSPX.lands_againZ fl3 fun h4 fl4 up4 => ?_)
      have J4 : Inv X pins σ1 H1 { t1 with heap := h4 } := J.landed below fl4.1 ((upTo.trans up3).trans up4) osE bareE
      obtain ⟨oe4, vs4, at4, z4, dt4⟩ := fl4.there
      have S4 := J4.suite at4 dt4 nA aL aF
      refine store_ok (X := X.suite a ((a, oe4) :: (X.pn ++ pins))) (v := .ref a) S4 hN hi (.inl hln) rfl (fun t5 S5 => ?_) (.inr hln)
      refine wpAny_mono ((hsu a oe4 cls d (X.pn ++ pins) z4 ⟨_, dt4⟩).run [] t5 _ H1 _ S5 (yes rfl a nA)) (fun f t6 hsp => ?_) (fun _ _ z => False.elim z)
      have closes : ∀ {σ6 : St} {H6 : Hp} {Q : Shared → Prop}, Inv (X.suite a ((a, oe4) :: (X.pn ++ pins))) [] σ6 H6 t6 → (∀ t7, Inv X pins (σ6.set i none) (upd H6 a (ExT cls d a)) t7 → Q t7) →
          wpAny (model X.prog X.w) X.A (do bindName X.env n .none; unbindBehindTheSuite X.env n pos') (fun _ t7 => Q t7) X.xe t6 := fun {σ6 H6 Q} S6 hq => by
        have J6 : Inv X ((a, oe4) :: pins) σ6 H6 t6 := ⟨okX, S6.os, S6.bare, S6.base, S6.loc, S6.cell, S6.free, S6.freeC, fun p hp => S6.pin p (by
          rw [List.append_nil]
          rcases List.mem_append.mp hp with h | h
          · exact List.mem_cons_of_mem _ (List.mem_append_left _ h)
          · rcases List.mem_cons.mp h with rfl | h
            · exact List.mem_cons_self
            · exact List.mem_cons_of_mem _ (List.mem_append_right _ h)), S6.hok, S6.len⟩
        exact gone_ok J6 hN hi hln fun t7 J7 => hq t7 (J7.track z4 dt4 a0 apin)
      cases f with
      | next =>
        obtain ⟨σ6, H6, S6, q6⟩ := hsp
        exact closes S6 fun t7 J7 => ⟨_, _, J7, q6⟩
      | ret u =>
        obtain ⟨v6, σ6, H6, S6, r6, q6⟩ := hsp
        exact closes S6 fun t7 J7 => ⟨_, _, _, J7, r6, q6⟩
      | brk =>
        obtain ⟨σ6, H6, S6, q6⟩ := hsp
        exact closes S6 fun t7 J7 => ⟨_, _, J7, q6⟩
      | cont =>
        obtain ⟨σ6, H6, S6, q6⟩ := hsp
        exact closes S6 fun t7 J7 => ⟨_, _, J7, q6⟩
end
end L2

end
section
set_option maxHeartbeats 200000
/-! LC2: the values of the small language against the abstract heap. -/
namespace LC
open PySem PySem.Spec PyProof.Rows L2

/-- a list of the written part -/
def Wr (K : PySem.W.Frag) (a : Addr) (xs : List V) : Prop :=
  ∃ (o : Obj) (its : Array Value) (n : Nat), K.lookup a = some o ∧ o.cls = .type "list" ∧ o.dict = none ∧ o.data = .seq its n ∧ its.size ≤ sizeLine ∧ Vals xs its.toList
/-- where one stands: the written part, the module's names; the cells' addresses; the addresses that no value leads to -/
def Still (o : HO) : Prop := (∃ vs, o = .tup vs) ∨ ∃ cls d a, o = L2.ExT cls d a
theorem Still.lst {o : HO} (h : Still o) {vs : List V} : o ≠ .lst vs := by
  rcases h with ⟨_, rfl⟩ | ⟨_, _, _, rfl⟩
  · exact fun e => by cases e
  · intro e
    unfold L2.ExT at e
    cases e
structure At where
  K : PySem.W.Frag
  mg : Str → Option Value
  m : List Addr
  E : Addr → Prop
  H : Hp
def At.rd (a : At) (p : Addr) (vs : List V) : Prop := (p ∉ a.m ∧ ¬ a.E p ∧ Rd a.H p (.lst vs)) ∨ Wr a.K p vs
mutual
def Rel (A : At) : D → V → Prop
  | .non, v => v = .non
  | .bl b, v => v = .bl b
  | .int i, v => v = .int i
  | .str x, v => v = .str x
  | .tup ds, v => ∃ p vs, v = .ref p ∧ A.H p = some (.tup vs) ∧ ds.length ≤ sizeLine ∧ RelL A ds vs
  | .lst ds, v => ∃ p vs, v = .ref p ∧ A.rd p vs ∧ ds.length ≤ sizeLine ∧ RelL A ds vs
  | .cell n, v => ∃ p, A.m[n]? = some p ∧ v = .ref p
  | .fn x, v => ∃ p, A.mg x = some (.ref p) ∧ v = .ref p
  | .exc x, v => ∃ p C, v = .ref p ∧ A.mg x = some (.ref C) ∧ A.H p = some (L2.ExT (.ref C) none p)
  | .ty n, v => v = .ty n
def RelL (A : At) : List D → List V → Prop
  | [], vs => vs = []
  | d :: ds, vs => ∃ v r, vs = v :: r ∧ Rel A d v ∧ RelL A ds r
end
/-- how the heap may go on -/
structure Stp (A B : At) : Prop where
  K : B.K = A.K
  mg : B.mg = A.mg
  pre : ∀ (n : Nat) (p : Addr), A.m[n]? = some p → B.m[n]? = some p
  rd : ∀ p vs, A.rd p vs → B.rd p vs
  tp : ∀ p o, Still o → A.H p = some o → B.H p = some o
mutual
theorem Rel.step {A B : At} (s : Stp A B) : ∀ (d : D) (v : V), Rel A d v → Rel B d v
  | .non, v, h => h
  | .bl _, v, h => h
  | .int _, v, h => h
  | .str _, v, h => h
  | .tup ds, v, h => by
    obtain ⟨p, vs, e, h1, h2, h3⟩ := h
    exact ⟨p, vs, e, s.tp _ _ (.inl ⟨_, rfl⟩) h1, h2, RelL.step s ds vs h3⟩
  | .lst ds, v, h => by
    obtain ⟨p, vs, e, h1, h2, h3⟩ := h
    exact ⟨p, vs, e, s.rd _ _ h1, h2, RelL.step s ds vs h3⟩
  | .cell n, v, h => by
    obtain ⟨p, h1, e⟩ := h
    exact ⟨p, s.pre _ _ h1, e⟩
  | .fn x, v, h => by
    obtain ⟨p, h1, e⟩ := h
    exact ⟨p, by rw [s.mg]; exact h1, e⟩
  | .exc x, v, h => by
    obtain ⟨p, C, e, h1, h2⟩ := h
    exact ⟨p, C, e, by rw [s.mg]; exact h1, s.tp _ _ (.inr ⟨_, _, _, rfl⟩) h2⟩
  | .ty x, v, h => h
theorem RelL.step {A B : At} (s : Stp A B) : ∀ (ds : List D) (vs : List V), RelL A ds vs → RelL B ds vs
  | [], vs, h => h
  | d :: ds, vs, h => by
    obtain ⟨v, r, e, h1, h2⟩ := h
    exact ⟨v, r, e, Rel.step s d v h1, RelL.step s ds r h2⟩
end
theorem RelL.len {A : At} : ∀ {ds : List D} {vs : List V}, RelL A ds vs → vs.length = ds.length
  | [], vs, h => by rw [show vs = [] from h]; rfl
  | d :: ds, vs, h => by
    obtain ⟨v, r, rfl, h1, h2⟩ := h
    rw [List.length_cons, List.length_cons, RelL.len h2]
theorem RelL.get {A : At} : ∀ {ds : List D} {vs : List V} {i : Nat} {d : D}, RelL A ds vs → ds[i]? = some d → ∃ v, vs[i]? = some v ∧ Rel A d v
  | [], vs, i, d, h, e => by simp at e
  | d₀ :: ds, vs, 0, d, h, e => by
    obtain ⟨v, r, rfl, h1, h2⟩ := h
    simp at e
    subst e
    exact ⟨v, rfl, h1⟩
  | d₀ :: ds, vs, i + 1, d, h, e => by
    obtain ⟨v, r, rfl, h1, h2⟩ := h
    exact RelL.get (i := i) h2 e
theorem RelL.getV {A : At} : ∀ {ds : List D} {vs : List V} {i : Nat} {v : V}, RelL A ds vs → vs[i]? = some v → ∃ d, ds[i]? = some d ∧ Rel A d v
  | [], vs, i, d, h, e => by rw [show vs = [] from h] at e; simp at e
  | d₀ :: ds, vs, 0, v, h, e => by
    obtain ⟨w, r, rfl, h1, h2⟩ := h
    simp at e
    subst e
    exact ⟨d₀, rfl, h1⟩
  | d₀ :: ds, vs, i + 1, v, h, e => by
    obtain ⟨w, r, rfl, h1, h2⟩ := h
    exact RelL.getV (i := i) h2 e
theorem RelL.append {A : At} : ∀ {ds es : List D} {vs ws : List V}, RelL A ds vs → RelL A es ws → RelL A (ds ++ es) (vs ++ ws)
  | [], es, vs, ws, h, h' => by rw [show vs = [] from h]; exact h'
  | d :: ds, es, vs, ws, h, h' => by
    obtain ⟨v, r, rfl, h1, h2⟩ := h
    exact ⟨v, r ++ ws, rfl, h1, RelL.append h2 h'⟩
theorem RelL.nil {A : At} : RelL A [] [] := rfl
theorem RelL.cons {A : At} {d : D} {v : V} {ds : List D} {vs : List V} (h : Rel A d v) (h' : RelL A ds vs) : RelL A (d :: ds) (v :: vs) := ⟨v, vs, rfl, h, h'⟩
theorem RelL.one {A : At} {d : D} {v : V} (h : Rel A d v) : RelL A [d] [v] := .cons h .nil
theorem RelL.drop {A : At} : ∀ (n : Nat) {ds : List D} {vs : List V}, RelL A ds vs → RelL A (ds.drop n) (vs.drop n)
  | 0, ds, vs, h => h
  | n + 1, [], vs, h => by rw [show vs = [] from h]; exact .nil
  | n + 1, d :: ds, vs, h => by
    obtain ⟨v, r, rfl, h1, h2⟩ := h
    exact RelL.drop n h2
theorem RelL.take {A : At} : ∀ (n : Nat) {ds : List D} {vs : List V}, RelL A ds vs → RelL A (ds.take n) (vs.take n)
  | 0, ds, vs, h => by
    rw [List.take_zero, List.take_zero]
    exact .nil
  | n + 1, [], vs, h => by rw [show vs = [] from h]; exact .nil
  | n + 1, d :: ds, vs, h => by
    obtain ⟨v, r, rfl, h1, h2⟩ := h
    exact .cons h1 (RelL.take n h2)
theorem RelL.rep {A : At} {ds : List D} {vs : List V} (h : RelL A ds vs) : ∀ k : Nat, RelL A (List.replicate k ds).flatten (List.replicate k vs).flatten
  | 0 => .nil
  | k + 1 => by
    rw [List.replicate_succ, List.replicate_succ, List.flatten_cons, List.flatten_cons]
    exact h.append (RelL.rep h k)
theorem RelL.ints {A : At} : ∀ {ds : List D} {vs : List V} {ns : List Int}, RelL A ds vs → intsOf ds = some ns → vs = ns.map V.int
  | [], vs, ns, h, e => by
    cases e
    exact h
  | .int i :: ds, vs, ns, h, e => by
    obtain ⟨v, r, rfl, h1, h2⟩ := h
    unfold intsOf at e
    cases q : intsOf ds with
    | none => rw [q] at e; cases e
    | some ms =>
      rw [q] at e
      cases e
      rw [RelL.ints h2 q, show v = V.int i from h1]
      rfl
  | .non :: _, _, _, _, e => by cases e
  | .bl _ :: _, _, _, _, e => by cases e
  | .str _ :: _, _, _, _, e => by cases e
  | .tup _ :: _, _, _, _, e => by cases e
  | .lst _ :: _, _, _, _, e => by cases e
  | .cell _ :: _, _, _, _, e => by cases e
  | .fn _ :: _, _, _, _, e => by cases e
  | .exc _ :: _, _, _, _, e => by cases e
  | .ty _ :: _, _, _, _, e => by cases e
theorem RelL.bls {A : At} : ∀ {ds : List D} {vs : List V} {ns : List Bool}, RelL A ds vs → blsOf ds = some ns → vs = ns.map V.bl
  | [], vs, ns, h, e => by
    cases e
    exact h
  | .bl i :: ds, vs, ns, h, e => by
    obtain ⟨v, r, rfl, h1, h2⟩ := h
    unfold blsOf at e
    cases q : blsOf ds with
    | none => rw [q] at e; cases e
    | some ms =>
      rw [q] at e
      cases e
      rw [RelL.bls h2 q, show v = V.bl i from h1]
      rfl
  | .non :: _, _, _, _, e => by cases e
  | .int _ :: _, _, _, _, e => by cases e
  | .str _ :: _, _, _, _, e => by cases e
  | .tup _ :: _, _, _, _, e => by cases e
  | .lst _ :: _, _, _, _, e => by cases e
  | .cell _ :: _, _, _, _, e => by cases e
  | .fn _ :: _, _, _, _, e => by cases e
  | .exc _ :: _, _, _, _, e => by cases e
  | .ty _ :: _, _, _, _, e => by cases e
theorem At.rd.sq {A : At} {p : Addr} {vs : List V} (h : A.rd p vs) : SqL A.K A.H p vs := by
  rcases h with ⟨_, _, h⟩ | h
  · exact .inl h
  · exact .inr h
/-! ### shapes -/
mutual
theorem sh_can : ∀ (d : D) (n : Nat), d.sh n = true → d.pd.canLay0 = true ∧ d.pd.depth ≤ n
  | .tup xs, n + 1, h => by
    obtain ⟨a, b⟩ := shA_can xs n h
    exact ⟨a, Nat.succ_le_succ b⟩
  | .lst xs, n + 1, h => by
    obtain ⟨a, b⟩ := shA_can xs n h
    exact ⟨a, Nat.succ_le_succ b⟩
  | .tup _, 0, h => by cases h
  | .lst _, 0, h => by cases h
  | .non, _, h => ⟨rfl, Nat.zero_le _⟩
  | .bl _, _, h => ⟨rfl, Nat.zero_le _⟩
  | .int _, _, h => ⟨rfl, Nat.zero_le _⟩
  | .str x, _, h => ⟨h, Nat.zero_le _⟩
  | .cell _, _, h => by cases h
  | .fn _, _, h => by cases h
  | .exc _, _, h => by cases h
  | .ty _, _, h => by cases h
theorem shA_can : ∀ (ds : List D) (n : Nat), D.shA ds n = true → PyData.canLayAll0 (D.pdA ds) = true ∧ PyData.depthAll (D.pdA ds) ≤ n
  | [], n, h => ⟨rfl, Nat.zero_le _⟩
  | d :: ds, n, h => by
    have h' : (D.sh d n && D.shA ds n) = true := h
    obtain ⟨h1, h2⟩ := Bool.and_eq_true_iff.mp h'
    obtain ⟨a, b⟩ := sh_can d n h1
    obtain ⟨a', b'⟩ := shA_can ds n h2
    refine ⟨?_, Nat.max_le.mpr ⟨b, b'⟩⟩
    show (PyData.canLay0 d.pd && PyData.canLayAll0 (D.pdA ds)) = true
    rw [a, a']
    rfl
end
theorem sh_shaped {d : D} {n : Nat} (h : d.sh n = true) (hn : n ≤ 64) : SeqAt.shaped d.pd = true := by
  obtain ⟨a, b⟩ := sh_can d n h
  unfold SeqAt.shaped
  rw [a, decide_eq_true (Nat.le_trans b hn)]
  rfl
mutual
theorem Rel.dp {A : At} : ∀ (d : D) (v : V) (n : Nat), d.sh n = true → Rel A d v → Dp A.K A.H v d.pd
  | .tup xs, v, n + 1, h, r => by
    obtain ⟨p, vs, rfl, h1, h2, h3⟩ := r
    exact .tup (SqT.of h1) (RelL.dp xs vs n h h3)
  | .lst xs, v, n + 1, h, r => by
    obtain ⟨p, vs, rfl, h1, h2, h3⟩ := r
    exact .lst h1.sq (RelL.dp xs vs n h h3)
  | .tup _, _, 0, h, _ => by cases h
  | .lst _, _, 0, h, _ => by cases h
  | .non, v, _, h, r => by rw [show v = V.non from r]; exact .non
  | .bl b, v, _, h, r => by rw [show v = V.bl b from r]; exact .bl b
  | .int b, v, _, h, r => by rw [show v = V.int b from r]; exact .int b
  | .str b, v, _, h, r => by rw [show v = V.str b from r]; exact .str b
  | .cell _, _, _, h, _ => by cases h
  | .fn _, _, _, h, _ => by cases h
  | .exc _, _, _, h, _ => by cases h
  | .ty _, _, _, h, _ => by cases h
theorem RelL.dp {A : At} : ∀ (ds : List D) (vs : List V) (n : Nat), D.shA ds n = true → RelL A ds vs → DpAll A.K A.H vs (D.pdA ds)
  | [], vs, n, h, r => by rw [show vs = [] from r]; exact .nil
  | d :: ds, vs, n, h, r => by
    obtain ⟨v, q, rfl, h1, h2⟩ := r
    obtain ⟨a, b⟩ := Bool.and_eq_true_iff.mp (show (D.sh d n && D.shA ds n) = true from h)
    exact .cons (Rel.dp d v n a h1) (RelL.dp ds q n b h2)
end
theorem pdA_map : ∀ ds : List D, D.pdA ds = ds.map D.pd
  | [] => rfl
  | d :: ds => by
    show D.pd d :: D.pdA ds = _
    rw [pdA_map ds]
    rfl

/-! ### the cells -/
def FldR (A : At) : List (Str × D) → List (Str × V) → Prop
  | [], fs => fs = []
  | (x, d) :: r, fs => ∃ v q, fs = (x, v) :: q ∧ Rel A d v ∧ FldR A r q
theorem FldR.step {A B : At} (s : Stp A B) : ∀ {ds : List (Str × D)} {fs : List (Str × V)}, FldR A ds fs → FldR B ds fs
  | [], _, h => h
  | (x, d) :: r, fs, h => by
    obtain ⟨v, q, e, h1, h2⟩ := h
    exact ⟨v, q, e, Rel.step s d v h1, FldR.step s h2⟩
def DiR (A : At) : List (Int × D) → List (Key × V) → Prop
  | [], fs => fs = []
  | (x, d) :: r, fs => ∃ v q, fs = (Sum.inl x, v) :: q ∧ Rel A d v ∧ DiR A r q
theorem DiR.step {A B : At} (s : Stp A B) : ∀ {ds : List (Int × D)} {fs : List (Key × V)}, DiR A ds fs → DiR B ds fs
  | [], _, h => h
  | (x, d) :: r, fs, h => by
    obtain ⟨v, q, e, h1, h2⟩ := h
    exact ⟨v, q, e, Rel.step s d v h1, DiR.step s h2⟩
def DtR (A : At) : List (List Int × D) → List (List Key × V) → Prop
  | [], fs => fs = []
  | (x, d) :: r, fs => ∃ v q, fs = (x.map Sum.inl, v) :: q ∧ Rel A d v ∧ DtR A r q
theorem DtR.step {A B : At} (s : Stp A B) : ∀ {ds : List (List Int × D)} {fs : List (List Key × V)}, DtR A ds fs → DtR B ds fs
  | [], _, h => h
  | (x, d) :: r, fs, h => by
    obtain ⟨v, q, e, h1, h2⟩ := h
    exact ⟨v, q, e, Rel.step s d v h1, DtR.step s h2⟩
def CellR (A : At) : Cell → Option HO → Prop
  | .lst ds, o => ∃ vs, o = some (.lst vs) ∧ ds.length ≤ sizeLine ∧ RelL A ds vs
  | .dI kvs, o => ∃ es, o = some (.dK es) ∧ kvs.length ≤ sizeLine ∧ DiR A kvs es
  | .dT kvs, o => ∃ es, o = some (.dT es) ∧ kvs.length ≤ sizeLine ∧ DtR A kvs es
  | .ins c fs, o => ∃ C dx gs, o = some (.ins C dx gs) ∧ A.mg c = some (.ref C) ∧ fs.length < 1000 ∧ FldR A fs gs
theorem CellR.step {A B : At} (s : Stp A B) : ∀ {c : Cell} {o : Option HO}, CellR A c o → CellR B c o
  | .lst ds, o, h => by
    obtain ⟨vs, e, z, r⟩ := h
    exact ⟨vs, e, z, RelL.step s _ _ r⟩
  | .dI ds, o, h => by
    obtain ⟨vs, e, z, r⟩ := h
    exact ⟨vs, e, z, DiR.step s r⟩
  | .dT ds, o, h => by
    obtain ⟨vs, e, z, r⟩ := h
    exact ⟨vs, e, z, DtR.step s r⟩
  | .ins c fs, o, h => by
    obtain ⟨C, dx, gs, e, g, z, r⟩ := h
    exact ⟨C, dx, gs, e, by rw [s.mg]; exact g, z, FldR.step s r⟩
/-- not a tuple -/
theorem CellR.notStill {A : At} {c : Cell} {o : Option HO} {u : HO} (h : CellR A c o) (q : Still u) : o ≠ some u := by
  rcases q with ⟨_, rfl⟩ | ⟨_, _, _, rfl⟩
  · cases c with
    | lst _ => obtain ⟨_, rfl, _⟩ := h; exact fun e => by cases e
    | dI _ => obtain ⟨_, rfl, _⟩ := h; exact fun e => by cases e
    | dT _ => obtain ⟨_, rfl, _⟩ := h; exact fun e => by cases e
    | ins _ _ => obtain ⟨_, _, _, rfl, _⟩ := h; exact fun e => by cases e
  · unfold L2.ExT
    cases c with
    | lst _ => obtain ⟨_, rfl, _⟩ := h; exact fun e => by cases e
    | dI _ => obtain ⟨_, rfl, _⟩ := h; exact fun e => by cases e
    | dT _ => obtain ⟨_, rfl, _⟩ := h; exact fun e => by cases e
    | ins _ _ => obtain ⟨_, _, _, rfl, _⟩ := h; exact fun e => by cases e
structure Gd (A : At) (S : Store) : Prop where
  len : A.m.length = S.length
  nd : ∀ (i j : Nat) (p : Addr), A.m[i]? = some p → A.m[j]? = some p → i = j
  ok : ∀ (n : Nat) (c : Cell) (p : Addr), S[n]? = some c → A.m[n]? = some p → CellR A c (A.H p)
  noE : ∀ p ∈ A.m, ¬ A.E p
  Es : ∀ p, A.E p → A.H p ≠ none
theorem Gd.at {A : At} {S : Store} (g : Gd A S) {n : Nat} {c : Cell} (h : S[n]? = some c) : ∃ p, A.m[n]? = some p ∧ CellR A c (A.H p) := by
  have hl : n < S.length := (List.getElem?_eq_some_iff.mp h).1
  have hm : n < A.m.length := by rw [g.len]; exact hl
  exact ⟨A.m[n], List.getElem?_eq_getElem hm, g.ok n c _ h (List.getElem?_eq_getElem hm)⟩
theorem Gd.cell {A : At} {S : Store} (g : Gd A S) {p : Addr} (h : p ∈ A.m) : ∃ (n : Nat) (c : Cell), S[n]? = some c ∧ A.m[n]? = some p ∧ CellR A c (A.H p) := by
  obtain ⟨n, hn⟩ := List.mem_iff_getElem?.mp h
  have hl : n < A.m.length := (List.getElem?_eq_some_iff.mp hn).1
  have hs : n < S.length := by rw [← g.len]; exact hl
  exact ⟨n, S[n], List.getElem?_eq_getElem hs, hn, g.ok n _ p (List.getElem?_eq_getElem hs) hn⟩
theorem Gd.notStill {A : At} {S : Store} (g : Gd A S) {p : Addr} {u : HO} (q : Still u) (h : A.H p = some u) : p ∉ A.m := fun hp => by
  obtain ⟨n, c, _, _, k⟩ := g.cell hp
  exact k.notStill q h
theorem Gd.there {A : At} {S : Store} (g : Gd A S) {p : Addr} (h : p ∈ A.m) : A.H p ≠ none := by
  obtain ⟨n, c, _, _, k⟩ := g.cell h
  cases c with
  | lst _ => obtain ⟨_, e, _⟩ := k; rw [e]; exact fun z => by cases z
  | dI _ => obtain ⟨_, e, _⟩ := k; rw [e]; exact fun z => by cases z
  | dT _ => obtain ⟨_, e, _⟩ := k; rw [e]; exact fun z => by cases z
  | ins _ _ => obtain ⟨_, _, _, e, _⟩ := k; rw [e]; exact fun z => by cases z

/-- how code may go on: the cells alone change, new ones stand at new addresses -/
structure Ext (A B : At) : Prop where
  K : B.K = A.K
  mg : B.mg = A.mg
  E : B.E = A.E
  pre : ∀ (n : Nat) (p : Addr), A.m[n]? = some p → B.m[n]? = some p
  fresh : ∀ p ∈ B.m, p ∈ A.m ∨ A.H p = none
  keep : ∀ p o, p ∉ A.m → A.H p = some o → B.H p = some o
theorem Ext.refl (A : At) : Ext A A := ⟨rfl, rfl, rfl, fun _ _ h => h, fun _ h => .inl h, fun _ _ _ h => h⟩
theorem Ext.trans {A B C : At} (a : Ext A B) (b : Ext B C) : Ext A C where
  K := b.K.trans a.K
  mg := b.mg.trans a.mg
  E := b.E.trans a.E
  pre := fun n p h => b.pre n p (a.pre n p h)
  fresh := fun p h => by
    rcases b.fresh p h with q | q
    · exact a.fresh p q
    · by_cases z : p ∈ A.m
      · exact .inl z
      · cases e : A.H p with
        | none => exact .inr rfl
        | some o => rw [a.keep p o z e] at q; cases q
  keep := fun p o h e => by
    refine b.keep p o (fun z => ?_) (a.keep p o h e)
    rcases a.fresh p z with q | q
    · exact h q
    · rw [e] at q; cases q
theorem Ext.out {A B : At} (x : Ext A B) {p : Addr} {o : HO} (h : p ∉ A.m) (e : A.H p = some o) : p ∉ B.m := fun z => by
  rcases x.fresh p z with q | q
  · exact h q
  · rw [e] at q; cases q
theorem Rd.there {H : Hp} {p : Addr} {u : HO} (h : Rd H p u) : ∃ o, H p = some o ∧ (o = u ∨ ∃ b, o = .frz b u) := by
  rcases h with h | ⟨b, h⟩
  · exact ⟨_, h, .inl rfl⟩
  · exact ⟨_, h, .inr ⟨b, rfl⟩⟩
theorem Ext.step {A B : At} {S : Store} (g : Gd A S) (x : Ext A B) : Stp A B where
  K := x.K
  mg := x.mg
  pre := x.pre
  rd := fun p vs h => by
    rcases h with ⟨h1, h2, h3⟩ | h
    · refine .inl ⟨?_, by rw [x.E]; exact h2, ?_⟩
      · obtain ⟨o, e, _⟩ := Rd.there h3
        exact x.out h1 e
      · rcases h3 with h3 | ⟨b, h3⟩
        · exact .inl (x.keep _ _ h1 h3)
        · exact .inr ⟨b, x.keep _ _ h1 h3⟩
    · exact .inr (by rw [x.K]; exact h)
  tp := fun p o q h => x.keep _ _ (g.notStill q h) h

/-- slots -/
def EnvR (A : At) (ρ : Env) (σ : L2.St) : Prop := σ.length = ρ.length ∧ ∀ (i : Nat) (d : D), ρ[i]? = some (some d) → ∃ v, σ[i]? = some (some v) ∧ Rel A d v
theorem EnvR.step {A B : At} (s : Stp A B) {ρ : Env} {σ : L2.St} (h : EnvR A ρ σ) : EnvR B ρ σ := ⟨h.1, fun i d e => by
  obtain ⟨v, e1, r⟩ := h.2 i d e
  exact ⟨v, e1, Rel.step s d v r⟩⟩
theorem EnvR.set {A : At} {ρ : Env} {σ : L2.St} {i : Nat} {d : D} {v : V} (h : EnvR A ρ σ) (r : Rel A d v) : EnvR A (ρ.set i (some d)) (σ.set i (some v)) := by
  refine ⟨by rw [List.length_set, List.length_set]; exact h.1, fun j e hj => ?_⟩
  by_cases hi : i = j
  · subst hi
    by_cases hlt : i < ρ.length
    · rw [List.getElem?_set_self hlt] at hj
      cases hj
      exact ⟨v, by rw [List.getElem?_set_self (by rw [h.1]; exact hlt)], r⟩
    · rw [List.getElem?_eq_none (by rw [List.length_set]; omega)] at hj
      cases hj
  · rw [List.getElem?_set_ne hi] at hj
    rw [List.getElem?_set_ne hi]
    exact h.2 j e hj
/-- slots forgotten -/
theorem EnvR.less {A : At} {ρ ρ' : Env} {σ σ' : L2.St} (h : EnvR A ρ σ) (hl : σ'.length = ρ'.length) (hw : ∀ (i : Nat) (d : D), ρ'[i]? = some (some d) → ρ[i]? = some (some d) ∧ σ'[i]? = σ[i]?) : EnvR A ρ' σ' := ⟨hl, fun i d e => by
  obtain ⟨e1, e2⟩ := hw i d e
  rw [e2]
  exact h.2 i d e1⟩

/-! ### what is to be shown behind a piece of code -/
def Post {α β : Type} (rel : At → α → β → Prop) (A : At) (r : R α) (Q : β → Hp → Prop) (W : XK) : Prop := match r with
  | .ok d S => ∀ (v : β) (B : At), Ext A B → Gd B S → rel B d v → Q v B.H
  | .exc x S => ∀ B : At, Ext A B → Gd B S → ∃ C, A.mg x = some (.ref C) ∧ W (.ref C) none B.H
  | .bad => False
theorem Post.ext {α β : Type} {rel : At → α → β → Prop} {A B : At} {r : R α} {Q : β → Hp → Prop} {W : XK} (x : Ext A B) (h : Post rel A r Q W) : Post rel B r Q W := by
  cases r with
  | ok d S => exact fun v C y g k => h v C (x.trans y) g k
  | exc e S =>
    intro C y g
    obtain ⟨c, h1, h2⟩ := h C (x.trans y) g
    exact ⟨c, by rw [x.mg]; exact h1, h2⟩
  | bad => exact h
theorem Post.mono {α β : Type} {rel : At → α → β → Prop} {A : At} {r : R α} {Q Q' : β → Hp → Prop} {W W' : XK} (h : Post rel A r Q W) (hq : ∀ v H, Q v H → Q' v H) (hw : ∀ c d H, W c d H → W' c d H) : Post rel A r Q' W' := by
  cases r with
  | ok d S => exact fun v C y g k => hq _ _ (h v C y g k)
  | exc e S =>
    intro C y g
    obtain ⟨c, h1, h2⟩ := h C y g
    exact ⟨c, h1, hw _ _ _ h2⟩
  | bad => exact h
/-- the reading of code whose result is m -/
def Rdg {α β : Type} (rel : At → α → β → Prop) (K : PySem.W.Frag) (mg : Str → Option Value) (W : WX) (ev : Env → M α) (σ : L2.St) (H : Hp) (Q : β → Hp → Prop) : Prop :=
  ∃ (A : At) (ρ : Env) (S : Store), A.K = K ∧ A.mg = mg ∧ A.H = H ∧ Gd A S ∧ EnvR A ρ σ ∧ Post rel A (ev ρ S) Q fun c d H' => W c d σ H'
abbrev TEv (K : PySem.W.Frag) (mg : Str → Option Value) (W : WX) (ev : Env → M D) : TE := fun σ H Q => Rdg Rel K mg W ev σ H Q
abbrev TAv (K : PySem.W.Frag) (mg : Str → Option Value) (W : WX) (ev : Env → M (List D)) : TA := fun σ H Q => Rdg RelL K mg W ev σ H Q
def blR (A : At) (d : D) (b : Bool) : Prop := d = .bl b
def toBl : D → M Bool
  | .bl b => M.pure b
  | _ => M.bad
abbrev TTv (K : PySem.W.Frag) (mg : Str → Option Value) (W : WX) (ev : Env → M Bool) : TT := fun σ H Q => Rdg (fun _ (b : Bool) c => c = b) K mg W ev σ H Q
/-- two pieces one behind another -/
theorem Rdg.bind {α β γ δ : Type} {rel : At → α → β → Prop} {rel' : At → γ → δ → Prop} {W : WX} {A : At} {S : Store} {σ : L2.St} {m : M α} {f : α → M γ} {Q : δ → Hp → Prop} {Q' : β → Hp → Prop}
    (h : Post rel' A ((m S).bind f) Q fun c d H' => W c d σ H')
    (k : ∀ a S1 v B, m S = .ok a S1 → Ext A B → Gd B S1 → rel B a v → Post rel' B (f a S1) Q (fun c d H' => W c d σ H') → Q' v B.H) : Post rel A (m S) Q' fun c d H' => W c d σ H' := by
  cases e : m S with
  | ok a S1 =>
    rw [e] at h
    exact fun v B x g r => k a S1 v B e x g r (Post.ext x h)
  | exc x S1 => rw [e] at h; exact h
  | bad => rw [e] at h; exact h
theorem _root_.L2.PE.less {X : Cx} {e : Expr} {t t' : TE} (h : PE X e t) (i : ∀ σ H Q, t' σ H Q → t σ H Q) : PE X e t' := ⟨fun pins s σ H Q I q => h.run pins s σ H Q I (i σ H Q q)⟩
theorem _root_.L2.PT.less {X : Cx} {e : Expr} {t t' : TT} (h : PT X e t) (i : ∀ σ H Q, t' σ H Q → t σ H Q) : PT X e t' := ⟨fun pins s σ H Q I q => h.run pins s σ H Q I (i σ H Q q)⟩
theorem _root_.L2.PW.less {X : Cx} {e : Expr} {t t' : TT} (h : PW X e t) (i : ∀ σ H Q, t' σ H Q → t σ H Q) : PW X e t' := ⟨fun w pins s σ H Q I q => h.run w pins s σ H Q I (i σ H Q q)⟩
theorem _root_.L2.PA.less {X : Cx} {es : List Expr} {t t' : TA} (h : PA X es t) (i : ∀ σ H Q, t' σ H Q → t σ H Q) : PA X es t' := ⟨fun p pins s σ H Q I q => h.run p pins s σ H Q I (i σ H Q q)⟩
theorem _root_.L2.PS.less {X : Cx} {st : Stmt} {t t' : TS} (h : PS X st t) (i : ∀ D σ H, t' D σ H → t D σ H) : PS X st t' := ⟨fun pins s σ H D I q => h.run pins s σ H D I (i D σ H q)⟩
theorem _root_.L2.PSs.less {X : Cx} {st : List Stmt} {t t' : TS} (h : PSs X st t) (i : ∀ D σ H, t' D σ H → t D σ H) : PSs X st t' := ⟨fun pins s σ H D I q => h.run pins s σ H D I (i D σ H q)⟩
end LC

end
section
set_option maxHeartbeats 200000
/-! LC3: the rules of expressions. -/
namespace LC
open PySem PySem.Spec PyProof.Rows L2

/-! ### new objects -/
def At.put (A : At) (p : Addr) (o : HO) : At := { A with H := upd A.H p o }
section
variable {A : At} {S : Store} {p : Addr}
theorem Gd.out (g : Gd A S) (n : A.H p = none) : p ∉ A.m := fun z => g.there z n
theorem Gd.outE (g : Gd A S) (n : A.H p = none) : ¬ A.E p := fun z => g.Es p z n
theorem Ext.put (o : HO) (n : A.H p = none) : Ext A (A.put p o) :=
  ⟨rfl, rfl, rfl, fun _ _ h => h, fun _ h => .inl h, fun q u _ e => by
    show upd A.H p o q = some u
    rw [upd_ne (ne_of_none e n)]
    exact e⟩
theorem Gd.ext {B : At} (g : Gd A S) (x : Ext A B) (hm : B.m = A.m) (hH : ∀ q ∈ A.m, B.H q = A.H q) : Gd B S where
  len := by rw [hm]; exact g.len
  nd := by rw [hm]; exact g.nd
  ok := fun n c q h1 h2 => by
    rw [hm] at h2
    rw [hH q (List.mem_iff_getElem?.mpr ⟨n, h2⟩)]
    exact (g.ok n c q h1 h2).step (x.step g)
  noE := by rw [hm, x.E]; exact g.noE
  Es := fun q h => by
    rw [x.E] at h
    cases e : A.H q with
    | none => exact absurd e (g.Es q h)
    | some o =>
      rw [x.keep q o (fun z => g.noE q z h) e]
      exact fun z => by cases z
theorem Gd.put (g : Gd A S) (o : HO) (n : A.H p = none) : Gd (A.put p o) S := g.ext (Ext.put o n) rfl fun q hq => by
  show upd A.H p o q = A.H q
  exact upd_ne fun z => by rw [z] at hq; exact g.there hq n
theorem new_tup {ds : List D} {vs : List V} {Q : VK} {W : XK} (g : Gd A S) (r : RelL A ds vs) (hl : ds.length ≤ sizeLine) (h : Post Rel A (.ok (.tup ds) S) Q W) (n : A.H p = none) : Q (.ref p) (upd A.H p (.tup vs)) :=
  h (.ref p) (A.put p (.tup vs)) (Ext.put _ n) (g.put _ n) ⟨p, vs, rfl, upd_same, hl, RelL.step ((Ext.put _ n).step g) ds vs r⟩
theorem new_lst {ds : List D} {vs : List V} {Q : VK} {W : XK} (g : Gd A S) (r : RelL A ds vs) (hl : ds.length ≤ sizeLine) (h : Post Rel A (.ok (.lst ds) S) Q W) (n : A.H p = none) : Q (.ref p) (upd A.H p (.lst vs)) :=
  h (.ref p) (A.put p (.lst vs)) (Ext.put _ n) (g.put _ n) ⟨p, vs, rfl, .inl ⟨g.out n, g.outE n, .inl upd_same⟩, hl, RelL.step ((Ext.put _ n).step g) ds vs r⟩
theorem val_ok {d : D} {v : V} {Q : VK} {W : XK} (g : Gd A S) (h : Post Rel A (.ok d S) Q W) (r : Rel A d v) : Q v A.H := h v A (Ext.refl A) g r
end

/-! ### a list that is read -/
def RelR (A : At) : D → V → Prop
  | .lst ds, v => ∃ p vs, v = .ref p ∧ SqL A.K A.H p vs ∧ ds.length ≤ sizeLine ∧ RelL A ds vs
  | d, v => Rel A d v
theorem Rel.r {A : At} {d : D} {v : V} (h : Rel A d v) : RelR A d v := by
  cases d with
  | lst ds =>
    obtain ⟨p, vs, e, h1, h2, h3⟩ := h
    exact ⟨p, vs, e, h1.sq, h2, h3⟩
  | _ => exact h
theorem vw_rel {A : At} {S : Store} {d : D} {v : V} (g : Gd A S) (h : Rel A d v) : RelR A (vw S d) v := by
  cases d with
  | cell n =>
    obtain ⟨p, h1, rfl⟩ := h
    show RelR A (vwc n S[n]?) _
    cases e : S[n]? with
    | none => exact ⟨p, h1, rfl⟩
    | some c =>
      cases c with
      | lst ds =>
        obtain ⟨vs, e1, z, r⟩ := g.ok n _ p e h1
        exact ⟨p, vs, rfl, SqL.of e1, z, r⟩
      | dI _ => exact ⟨p, h1, rfl⟩
      | dT _ => exact ⟨p, h1, rfl⟩
      | ins _ _ => exact ⟨p, h1, rfl⟩
  | lst ds => exact h.r
  | _ => exact h
/-- as shapes: what may be compared -/
theorem RelR.dp {A : At} : ∀ {d : D} {v : V} {n : Nat}, d.sh n = true → RelR A d v → Dp A.K A.H v d.pd
  | .lst xs, v, n + 1, h, r => by
    obtain ⟨p, vs, rfl, h1, h2, h3⟩ := r
    exact .lst h1 (RelL.dp xs vs n h h3)
  | .lst _, _, 0, h, _ => by cases h
  | .tup xs, v, n, h, r => Rel.dp _ _ n h r
  | .non, v, n, h, r => Rel.dp _ _ n h r
  | .bl _, v, n, h, r => Rel.dp _ _ n h r
  | .int _, v, n, h, r => Rel.dp _ _ n h r
  | .str _, v, n, h, r => Rel.dp _ _ n h r
  | .cell _, v, n, h, r => Rel.dp _ _ n h r
  | .fn _, v, n, h, r => Rel.dp _ _ n h r
  | .exc _, v, n, h, r => Rel.dp _ _ n h r
  | .ty _, v, n, h, r => Rel.dp _ _ n h r

/-! ### where a body stands -/
structure OkX (X : Cx) (N : List Str) (sc : Scope) (K : PySem.W.Frag) (mg : Str → Option Value) : Prop where
  eN : X.N = N
  es : X.env.scope = sc
  nd : N.Nodup
  calm : X.calm = true
  eK : X.K = K
  em : X.mg = mg
  room : Room 1 X.A
section
variable {X : Cx} {N : List Str} {sc : Scope} {K : PySem.W.Frag} {mg : Str → Option Value} {W : WX} {pos : Pos} {a b : Expr} {ea eb : Env → M D}
def getE (ρ : Env) (i : Nat) : Option D := match ρ[i]? with
  | some (some d) => some d
  | _ => none
theorem getE_of {ρ : Env} {i : Nat} {d : D} (h : getE ρ i = some d) : ρ[i]? = some (some d) := by
  unfold getE at h
  split at h
  · cases h; assumption
  · cases h
theorem sE_var {i : Nat} {x : Str} (hN : X.N[i]? = some x) (hv : Vis X.env.scope x) (hd : (x == ("__debug__" : Str)) = false) (hcd : (x == ("__classdict__" : Str)) = false) : PE X (.Name x pos) (TEv K mg W fun ρ => M.opt (getE ρ i)) :=
  (pe_var hN hv hd hcd).less fun σ H Q h => by
    obtain ⟨A, ρ, S, rfl, rfl, rfl, g, r, h⟩ := h
    cases e : getE ρ i with
    | none => simp only [e] at h; exact h.elim
    | some d =>
      simp only [e] at h
      obtain ⟨v, e1, r1⟩ := r.2 i d (getE_of e)
      exact ⟨v, e1, val_ok g h r1⟩
def cstOk : Const → D → Bool
  | .none, .non => true
  | .bool b, .bl c => b == c
  | .int i, .int j => decide (i = j)
  | .str x, .str y => decide (x = y)
  | _, _ => false
theorem sE_cst {c : Const} {d : D} {j : Nat} (h : cstOk c d = true) : PE X (.Constant c j pos) (TEv K mg W fun _ => M.pure d) := by
  have fin : ∀ {v : V} {σ : L2.St} {H : Hp} {Q : VK}, (∀ A, Rel A d v) → TEv K mg W (fun _ => M.pure d) σ H Q → Q v H := fun {v σ H Q} r h => by
    obtain ⟨A, ρ, S, rfl, rfl, rfl, g, _, h⟩ := h
    exact val_ok g h (r A)
  cases c with
  | none =>
    cases d with
    | non => exact pe_non.less fun σ H Q h => fin (fun _ => rfl) h
    | _ => cases h
  | bool b =>
    cases d with
    | bl c =>
      have e : b = c := by simpa [cstOk] using h
      subst e
      exact pe_bl.less fun σ H Q h => fin (fun _ => rfl) h
    | _ => cases h
  | int b =>
    cases d with
    | int c =>
      have e : b = c := of_decide_eq_true h
      subst e
      exact pe_int.less fun σ H Q h => fin (fun _ => rfl) h
    | _ => cases h
  | str b =>
    cases d with
    | str c =>
      have e : b = c := of_decide_eq_true h
      subst e
      exact pe_str.less fun σ H Q h => fin (fun _ => rfl) h
    | _ => cases h
  | _ => cases h
/-- a def of the text, as a value -/
theorem sE_gfn {x : Str} (hg : Gl X x) (hm : ∃ f, mg x = some (.ref f)) (em : X.mg = mg) (hd : (x == ("__debug__" : Str)) = false) : PE X (.Name x pos) (TEv K mg W fun _ => M.pure (.fn x)) := by
  obtain ⟨f, hf⟩ := hm
  refine (pe_glob (v := .ref f) hg (by rw [em]; exact hf) rfl hd).less fun σ H Q h => ?_
  obtain ⟨A, ρ, S, rfl, rfl, rfl, g, _, h⟩ := h
  exact val_ok g h ⟨f, hf, rfl⟩

/-! ### two operands -/
def op2 (f : D → D → Option D) (ea eb : Env → M D) : Env → M D := fun ρ => M.bind (ea ρ) fun x => M.bind (eb ρ) fun y => fun S => M.opt (f (vw S x) (vw S y)) S
/-- a rule's wants, met by what the small language says -/
def Snd2 (K : PySem.W.Frag) (f : D → D → Option D) (r : R2) : Prop :=
  ∀ (A : At) (S : Store) (x y d : D) (v w : V) (Q : VK) (W : XK), A.K = K → Gd A S → RelR A x v → RelR A y w → f x y = some d → Post Rel A (.ok d S) Q W → r v w A.H Q
theorem Snd2.or1 {K : PySem.W.Frag} {f : D → D → Option D} {r r' : R2} (h : Snd2 K f r) : Snd2 K f (fun x y H Q => r x y H Q ∨ r' x y H Q) := fun A S x y d v w Q W k g a b e p => .inl (h A S x y d v w Q W k g a b e p)
theorem Snd2.or2 {K : PySem.W.Frag} {f : D → D → Option D} {r r' : R2} (h : Snd2 K f r') : Snd2 K f (fun x y H Q => r x y H Q ∨ r' x y H Q) := fun A S x y d v w Q W k g a b e p => .inr (h A S x y d v w Q W k g a b e p)
theorem rd_op {f : D → D → Option D} {r : R2} (s : Snd2 K f r) {σ : L2.St} {H : Hp} {Q : VK} (h : TEv K mg W (op2 f ea eb) σ H Q) : tOp r (TEv K mg W ea) (TEv K mg W eb) σ H Q := by
  obtain ⟨A, ρ, S, eK, em, eH, g, r1, h⟩ := h
  refine ⟨A, ρ, S, eK, em, eH, g, r1, Rdg.bind h fun x S1 v B _ x1 g1 q1 h1 => ?_⟩
  refine ⟨B, ρ, S1, x1.K.trans eK, x1.mg.trans em, rfl, g1, r1.step (x1.step g), Rdg.bind h1 fun y S2 w C _ x2 g2 q2 h2 => ?_⟩
  have h2 : Post Rel C (M.opt (f (vw S2 x) (vw S2 y)) S2) Q (fun c d H' => W c d σ H') := h2
  cases e : f (vw S2 x) (vw S2 y) with
  | none => rw [e] at h2; exact h2.elim
  | some d =>
    rw [e] at h2
    exact s C S2 _ _ d v w Q _ ((x2.K.trans x1.K).trans eK) g2 (vw_rel g2 (Rel.step (x2.step g1) _ _ q1)) (vw_rel g2 q2) e h2
theorem sE_op {op : Operator} {f : D → D → Option D} {r : R2} (ho : OpR X (binaryOp op) r) (s : Snd2 K f r) (ha : PE X a (TEv K mg W ea)) (hb : PE X b (TEv K mg W eb)) : PE X (.BinOp a op b pos) (TEv K mg W (op2 f ea eb)) :=
  (pe_op ho ha hb).less fun σ H Q h => rd_op s h
theorem sE_cmp {op : CmpOp} {f : D → D → Option D} {r : R2} (ho : OpR X (compareOp op) r) (s : Snd2 K f r) (hm : behindInMarks op b = false) (ha : PE X a (TEv K mg W ea)) (hb : PE X b (TEv K mg W eb)) : PE X (.Compare a [op] [b] pos) (TEv K mg W (op2 f ea eb)) :=
  (pe_cmpR ho ha hb hm).less fun σ H Q h => rd_op s h
/-- a test by a value's rule -/
def asBl (e : Env → M D) : Env → M Bool := fun ρ => M.bind (e ρ) toBl
theorem rd_bl {σ : L2.St} {H : Hp} {Q : Bool → Hp → Prop} (h : TTv K mg W (asBl ea) σ H Q) : TEv K mg W ea σ H (fun x H1 => ∃ c, x = .bl c ∧ Q c H1) := by
  obtain ⟨A, ρ, S, eK, em, eH, g, r1, h⟩ := h
  refine ⟨A, ρ, S, eK, em, eH, g, r1, Rdg.bind h fun x S1 v B _ x1 g1 q1 h1 => ?_⟩
  cases x with
  | bl b => exact ⟨b, q1, h1 b B (Ext.refl B) g1 rfl⟩
  | _ => exact h1.elim
theorem sT_cmp {op : CmpOp} {f : D → D → Option D} {r : R2} (ho : OpR X (compareOp op) r) (s : Snd2 K f r) (hm : behindInMarks op b = false) (ha : PE X a (TEv K mg W ea)) (hb : PE X b (TEv K mg W eb)) : PT X (.Compare a [op] [b] pos) (TTv K mg W (asBl (op2 f ea eb))) :=
  (pt_cmpR ho ha hb hm).less fun σ H Q h => by
    have q := rd_bl h
    exact rd_op s q
theorem sT_val (he : ∀ whole, isTrue a X.env whole = (do let v ← whole; standAt a.pos; holding [v] (truthy v))) (ha : PE X a (TEv K mg W ea)) : PT X a (TTv K mg W (asBl ea)) :=
  (pt_val ha he).less fun σ H Q h => rd_bl h
end
end LC

end
section
set_option maxHeartbeats 1000000
/-! LC4: the operators' rules, met by the small language. -/
namespace LC
open PySem PySem.Spec PyProof.Rows L2
theorem line_eq : line = sizeLine := by rw [sizeLine_eq]; rfl

/-! ### lists of any kind -/
def rCatS (K : PySem.W.Frag) : R2 := fun x y H Q => ∃ l b xs zs, x = .ref l ∧ y = .ref b ∧ SqL K H l xs ∧ SqL K H b zs ∧ xs.length + zs.length ≤ sizeLine ∧ ∀ p, H p = none → Q (.ref p) (upd H p (.lst (xs ++ zs)))
theorem op_catS {X : Cx} : OpR X (binaryOp .Add) (rCatS X.K) := by
  intro pins s σ H x y v u Q I rx ry h
  obtain ⟨l, b, xs, zs, rfl, rfl, hH, hB, hz, q⟩ := h
  cases rx
  cases ry
  obtain ⟨its, r, hl, z1⟩ := I.list hH
  obtain ⟨its2, r2, hb, z2⟩ := I.list hB
  obtain ⟨⟨cls, dd, data, sl⟩, n, ho, hc, hdd, hd⟩ := id hl
  obtain ⟨⟨cls2, dd2, data2, sl2⟩, n2, ho2, hc2, hdd2, hd2⟩ := id hb
  simp only at hc hd hc2 hd2
  subst hc hd hc2 hd2
  have l1 := r.length
  have l2 := r2.length
  refine concat_meets ⟨_, ho, rfl⟩ ⟨_, ho2, rfl⟩ noFill_list_add seq_list_add PySem.F.slot_list_add PySem.F.entry_list_add (PySem.F.args_list_add_2 _ _)
    (list_addW l b its.toArray its2.toArray n n2 dd dd2 sl sl2 (by rw [List.size_toArray, List.size_toArray]; omega)) ⟨ho, ho2, ?_⟩
  have e : its.toArray ++ its2.toArray = (its ++ its2).toArray := by simp
  rw [e]
  exact ⟨.ref _, _, I.lnew (t' := s.toks) (r.append r2) (by rw [List.length_append]; omega), rfl, q _ I.fresh⟩
theorem tuple_mulW1 (l : Addr) (items : Array Value) (n : Nat) (dd : Option Addr) (sl : Array (Option Value)) (u : Tok) :
    Meets (Builtin.«tuple.__mul__» ⟨[.ref l, .int 1 u], []⟩) (fun _ R s => s.heap.get? l = some { cls := .type "tuple", dict := dd, data := .seq items n, slots := sl } ∧ R (.ok (.ret (Value.ref l))) s) :=
  .of_wp fun prog w A R s h => by
    obtain ⟨hp, g, d, tk, os⟩ := s
    obtain ⟨hl, h⟩ := h
    have f1 := AutoSeq1.idx_int
    have c1 : (items.isEmpty || (1 : Int) == 1) = true := by simp
    wp_walk using wpAny_loadPart' hl
    repeat (first
      | (refine wpAny_ite_true (decide_eq_true (by rw [c1])) ?_; wp_walk using wpAny_loadPart' hl)
      | exact ⟨_, rfl, h⟩)
theorem tuple_mulW0 (l : Addr) (items : Array Value) (n : Nat) (dd : Option Addr) (sl : Array (Option Value)) (x : Int) (u : Tok) (c0 : (decide (x < -(2 ^ 63)) || decide (x ≥ 2 ^ 63)) = false) (c1 : (items.isEmpty || x == 1) = false) (c2 : (decide (x ≤ 0) || items.isEmpty) = true) :
    Meets (Builtin.«tuple.__mul__» ⟨[.ref l, .int x u], []⟩) (fun _ R s => s.heap.get? l = some { cls := .type "tuple", dict := dd, data := .seq items n, slots := sl } ∧
      R (.ok (.ret (Value.ref s.heap.objs.size))) { s with heap := s.heap.push { cls := Value.type "tuple", data := Data.seq #[] }, toks := s.toks }) :=
  .of_wp fun prog w A R s h => by
    obtain ⟨hp, g, d, tk, os⟩ := s
    obtain ⟨hl, h⟩ := h
    have f1 := AutoSeq1.idx_int
    wp_walk using wpAny_loadPart' hl
    repeat (first
      | (refine wpAny_ite_false (decide_eq_false (by rw [c0]; exact Bool.false_ne_true)) ?_; wp_walk using wpAny_loadPart' hl)
      | (refine wpAny_ite_false (decide_eq_false (by rw [c1]; exact Bool.false_ne_true)) ?_; wp_walk using wpAny_loadPart' hl)
      | (refine wpAny_ite_true (decide_eq_true (by rw [c2])) ?_; wp_walk using wpAny_loadPart' hl)
      | exact ⟨_, rfl, h⟩)
theorem list_mulW (l : Addr) (items : Array Value) (n : Nat) (dd : Option Addr) (sl : Array (Option Value)) (x : Int) (u : Tok) (hc0 : ¬(!Builtin.List.listFitsIndex x) = true) (hc1 : ¬items.size * x.toNat > (2 ^ 63 - 1) / 8) (hc2 : ¬Builtin.List.listTooLong (items.size * x.toNat) = true)
    (hsz : (List.foldl (fun x1 x2 => x1 ++ x2) #[] (List.replicate (if items.isEmpty = true then 0 else x.toNat) items)).size ≤ sizeLine) :
    Meets (Builtin.«list.__mul__» ⟨[.ref l, .int x u], []⟩) (fun _ R s => s.heap.get? l = some { cls := .type "list", dict := dd, data := .seq items n, slots := sl } ∧ R (.ok (.ret (Value.ref s.heap.objs.size))) { s with heap := s.heap.push { cls := Value.type "list", data := Data.seq (List.foldl (fun x1 x2 => x1 ++ x2) #[] (List.replicate (if items.isEmpty = true then 0 else x.toNat) items)) }, toks := s.toks }) :=
  .of_wp fun prog w A R s h => by
    obtain ⟨hp, g, d, tk, os⟩ := s
    obtain ⟨hl, h⟩ := h
    have f1 := AutoSeq1.idx_int
    wp_walk using wpAny_loadPart' hl
    repeat (first
      | (refine wpAny_ite_false (decide_eq_false hc0) ?_; wp_walk using wpAny_loadPart' hl)
      | (refine wpAny_ite_false (decide_eq_false hc1) ?_; wp_walk using wpAny_loadPart' hl)
      | (refine wpAny_ite_false (decide_eq_false hc2) ?_; wp_walk using wpAny_loadPart' hl)
      | (refine wpAny_ite_false (decide_eq_false (Nat.not_lt.mpr hsz)) ?_; wp_walk using wpAny_loadPart' hl)
      | exact ⟨_, rfl, h⟩)
theorem int_rmul_listW (a : Int) (t : Tok) (l : Addr) (items : Array Value) (n : Nat) (dd : Option Addr) (sl : Array (Option Value)) :
    Meets (Builtin.«int.__rmul__» ⟨[.int a t, .ref l], []⟩) (fun _ R s => s.heap.get? l = some { cls := .type "list", dict := dd, data := .seq items n, slots := sl } ∧ R (.ok (.ret Value.notImplemented)) s) :=
  .of_wp fun prog w A R s h => by obtain ⟨hp, g, d, tk, os⟩ := s; obtain ⟨hl, h⟩ := h; wp_walk using wpAny_loadPart' hl; exact ⟨_, rfl, h⟩
theorem foldl_repA (its : List Value) (m : Nat) : List.foldl (fun x1 x2 => x1 ++ x2) #[] (List.replicate m its.toArray) = (List.replicate m its).flatten.toArray := by
  have := foldl_rep its m []
  rw [List.nil_append] at this
  exact this
def rRepS (K : PySem.W.Frag) : R2 := fun x y H Q => ∃ l k xs, x = .ref l ∧ y = .int k ∧ SqL K H l xs ∧ -1000 ≤ k ∧ k ≤ 1000 ∧ xs.length ≤ 1000 ∧ ∀ p, H p = none → Q (.ref p) (upd H p (.lst (List.replicate k.toNat xs).flatten))
theorem op_repS {X : Cx} : OpR X (binaryOp .Mult) (rRepS X.K) := by
  intro pins s σ H x y v u Q I rx ry h
  obtain ⟨l, k, xs, rfl, rfl, hH, h1, h2, hz, q⟩ := h
  cases rx
  obtain ⟨t, rfl⟩ := ry
  obtain ⟨its, r, hl, z1⟩ := I.list hH
  obtain ⟨⟨cls, dd, data, sl⟩, n, ho, hc, hdd, hd⟩ := id hl
  simp only at hc hd
  subst hc hd
  have l1 := r.length
  have hk : k.toNat ≤ 1000 := by omega
  have hm : k.toNat * xs.length ≤ 1000 * 1000 := Nat.mul_le_mul hk hz
  have hsl := sizeLine_eq
  have hm2 : its.toArray.size * k.toNat ≤ 1000 * 1000 := by rw [List.size_toArray, ← l1, Nat.mul_comm]; exact hm
  have hlen : its.toArray.size * k.toNat ≤ sizeLine := by omega
  have hcap : ¬ its.toArray.size * k.toNat > (2 ^ 63 - 1) / 8 := by
    have : (1000 * 1000 : Nat) ≤ (2 ^ 63 - 1) / 8 := by decide
    omega
  have hfit : ¬ (!Builtin.List.listFitsIndex k) = true := by
    rw [fitsIndex_both (by omega) (by omega)]
    exact Bool.false_ne_true
  have hlong : ¬ Builtin.List.listTooLong (its.toArray.size * k.toNat) = true := by
    rw [notLongL hlen]
    exact Bool.false_ne_true
  have hnew : List.foldl (fun x1 x2 => x1 ++ x2) #[] (List.replicate (if its.toArray.isEmpty = true then 0 else k.toNat) its.toArray) = (List.replicate k.toNat its).flatten.toArray := by
    rw [foldl_repA]
    cases its with
    | nil => simp
    | cons a r' => rw [if_neg (by simp)]
  have hll : (List.replicate k.toNat its).flatten.length ≤ sizeLine := by
    rw [PyProof.Rows.lm_len_rep_flat, ← l1]
    omega
  refine wpAny_binaryOp_repeat_ref (T := "list") (U := "int") (by decide) ⟨_, ho, rfl⟩ (fun s' => typeIs_int s' k t) noFill_list_mul F.fills_int_mul F.slot_int_rmul repeat_list F.slot_int_index.lookup
    (call_meets F.slot_int_rmul (typeIs_int s k t) F.entry_int_rmul (F.args_int_rmul_2 _ _) (int_rmul_listW k t l its.toArray n dd sl)
      ⟨ho, rfl, ⟨_, ho, rfl⟩, call_meets F.slot_list_mul ⟨_, ho, rfl⟩ F.entry_list_mul (F.args_list_mul_2 _ _) (list_mulW l its.toArray n dd sl k t hfit hcap hlong (by rw [hnew, List.size_toArray]; exact hll)) ⟨ho, ?_⟩⟩)
  rw [hnew]
  exact ⟨.ref _, _, I.lnew (t' := s.toks) (r.rep k.toNat) (by rw [PyProof.Rows.lm_len_rep_flat]; omega), rfl, q _ I.fresh⟩
def rRepA (K : PySem.W.Frag) : R2 := fun x y H Q => ∃ l k xs, x = .ref l ∧ y = .int k ∧ SqT K H l xs ∧ xs ≠ [] ∧ -1000 ≤ k ∧ k ≤ 1000 ∧ xs.length ≤ 1000 ∧ (k = 1 → Q (.ref l) H) ∧ (k ≠ 1 → ∀ p, H p = none → Q (.ref p) (upd H p (.tup (List.replicate k.toNat xs).flatten)))
theorem op_repA {X : Cx} : OpR X (binaryOp .Mult) (rRepA X.K) := by
  intro pins s σ H x y v u Q I rx ry h
  obtain ⟨l, k, xs, rfl, rfl, hT, hne, h1, h2, hz, q1, q2⟩ := h
  by_cases hk2 : 2 ≤ k
  · exact op_repT pins s σ H _ _ v u Q I rx ry ⟨l, k, xs, rfl, rfl, hT, hne, hk2, h2, hz, q2 (by omega)⟩
  cases rx
  obtain ⟨t, rfl⟩ := ry
  obtain ⟨its, r, ⟨⟨cls, dd, data, sl⟩, ho, hc, n, hd⟩, hs⟩ := I.tuple hT
  simp only at hc hd
  subst hc hd
  by_cases hk1 : k = 1
  · subst hk1
    exact wpAny_binaryOp_repeat_ref (T := "tuple") (U := "int") (by decide) ⟨_, ho, rfl⟩ (fun s' => typeIs_int s' 1 t) noFill_tuple_mul F.fills_int_mul F.slot_int_rmul repeat_tuple F.slot_int_index.lookup
      (call_meets F.slot_int_rmul (typeIs_int s 1 t) F.entry_int_rmul (F.args_int_rmul_2 _ _) (int_rmul_tuple 1 t l its.toArray n dd sl)
        ⟨ho, rfl, ⟨_, ho, rfl⟩, call_meets F.slot_tuple_mul ⟨_, ho, rfl⟩ F.entry_tuple_mul (F.args_tuple_mul_2 _ _) (tuple_mulW1 l its.toArray n dd sl t) ⟨ho, ⟨.ref l, H, I, rfl, q1 rfl⟩⟩⟩)
  · have hle : its.length = xs.length := r.length.symm
    have hi : its.toArray.isEmpty = false := by
      cases its with
      | nil => exact absurd (List.eq_nil_of_length_eq_zero (show xs.length = 0 from hle.symm)) hne
      | cons a b => rfl
    have c0 : (decide (k < -(2 ^ 63)) || decide (k ≥ 2 ^ 63)) = false := by
      rw [decide_eq_false (by omega), decide_eq_false (by omega)] <;> rfl
    have c1 : (its.toArray.isEmpty || k == 1) = false := by
      rw [hi, Bool.false_or]
      exact beq_eq_false_iff_ne.mpr hk1
    have c2 : (decide (k ≤ 0) || its.toArray.isEmpty) = true := by
      rw [decide_eq_true (by omega)]
      rfl
    refine wpAny_binaryOp_repeat_ref (T := "tuple") (U := "int") (by decide) ⟨_, ho, rfl⟩ (fun s' => typeIs_int s' k t) noFill_tuple_mul F.fills_int_mul F.slot_int_rmul repeat_tuple F.slot_int_index.lookup
      (call_meets F.slot_int_rmul (typeIs_int s k t) F.entry_int_rmul (F.args_int_rmul_2 _ _) (int_rmul_tuple k t l its.toArray n dd sl)
        ⟨ho, rfl, ⟨_, ho, rfl⟩, call_meets F.slot_tuple_mul ⟨_, ho, rfl⟩ F.entry_tuple_mul (F.args_tuple_mul_2 _ _) (tuple_mulW0 l its.toArray n dd sl k t c0 c1 c2) ⟨ho, ?_⟩⟩)
    have e0 : (List.replicate k.toNat xs).flatten = [] := by
      rw [show k.toNat = 0 by omega]
      rfl
    have q3 := q2 hk1 s.heap.objs.size (I.hok.fresh (Nat.le_refl _))
    rw [e0] at q3
    exact ⟨.ref s.heap.objs.size, _, I.laid (t' := s.toks) (o := .tup []) (fun b ob q => Heap.get?_push_of_some _ q) (Nat.le_refl _) ⟨Nat.zero_le _, [], .nil, IsTup.new _ _⟩, rfl, q3⟩

/-! ### in, not in, over tuples -/
def rInT (K : PySem.W.Frag) (neg : Bool) : R2 := fun x y H Q => ∃ (d : PyData) (ds : List PyData), Dp K H x d ∧ Dp K H y (.tuple ds) ∧ SeqAt.shaped d = true ∧ SeqAt.shaped (.tuple ds) = true ∧ Q (.bl (if neg then !ds.any (fun z => PyData.eqv z d) else ds.any fun z => PyData.eqv z d)) H
theorem op_inT {X : Cx} (hu : X.A.units + 65 < cLine) : OpR X (compareOp .In) (rInT X.K false) := by
  intro pins s σ H x y v u Q I rx ry h
  obtain ⟨d, ds, hd, he, sd, se, q⟩ := h
  obtain ⟨as, r1⟩ := Dp.reads I d x v hd rx
  obtain ⟨bs, r2⟩ := Dp.reads I (.tuple ds) y u he ry
  exact SeqAt.in_tuple_reads r2 r1 (SeqAt.canLay_of_shaped se) (SeqAt.canLay_of_shaped sd) (room_in_shaped sd hu) ⟨.bl _, H, I, rfl, q⟩
theorem op_notInT {X : Cx} (hu : X.A.units + 65 < cLine) : OpR X (compareOp .NotIn) (rInT X.K true) := by
  intro pins s σ H x y v u Q I rx ry h
  obtain ⟨d, ds, hd, he, sd, se, q⟩ := h
  obtain ⟨as, r1⟩ := Dp.reads I d x v hd rx
  obtain ⟨bs, r2⟩ := Dp.reads I (.tuple ds) y u he ry
  exact SeqAt.notIn_tuple_reads r2 r1 (SeqAt.canLay_of_shaped se) (SeqAt.canLay_of_shaped sd) (room_in_shaped sd hu) ⟨.bl _, H, I, rfl, q⟩
end LC

end
section
set_option maxHeartbeats 1000000
/-! LC5: the operators, each as one rule. -/
namespace LC
open PySem PySem.Spec PyProof.Rows L2
def rNo : R2 := fun _ _ _ _ => False
def rStr : R2 := fun x y H Q => ∃ i j, x = .str i ∧ y = .str j ∧ i.length + j.length ≤ sizeLine ∧ Q (.str (i ++ j)) H
def rBin (K : PySem.W.Frag) : Operator → R2
  | .Add => fun x y H Q => (rI0 fun i j => .int (i + j)) x y H Q ∨ (rCatA K x y H Q ∨ (rCatS K x y H Q ∨ rStr x y H Q))
  | .Sub => rI0 fun i j => .int (i - j)
  | .Mult => fun x y H Q => (rI CMulW fun i j => .int (i * j)) x y H Q ∨ (rRepA K x y H Q ∨ rRepS K x y H Q)
  | .FloorDiv => fun x y H Q => (rI CDivN fun i j => .int (i.fdiv j)) x y H Q ∨ (rI CDivW fun i j => .int (i / j)) x y H Q
  | .Mod => rI (fun _ j => j ≠ 0) fun i j => .int (i.fmod j)
  | .Pow => rI CPow fun i j => .int (i ^ j.toNat)
  | _ => rNo
theorem op_no {X : Cx} {f : Value → Value → Sem Value} : OpR X f rNo := fun _ _ _ _ _ _ _ _ _ _ _ _ h => h.elim
theorem op_bin {X : Cx} : ∀ op : Operator, OpR X (binaryOp op) (rBin X.K op)
  | .Add => op_add.or (op_catA.or (op_catS.or op_add_str))
  | .Sub => op_sub
  | .Mult => op_mulW.or (op_repA.or op_repS)
  | .FloorDiv => op_fdivN.or op_fdivW
  | .Mod => op_modN
  | .Pow => op_pow
  | .MatMult => op_no
  | .Div => op_no
  | .LShift => op_no
  | .RShift => op_no
  | .BitOr => op_no
  | .BitXor => op_no
  | .BitAnd => op_no
theorem snd_bin {K : PySem.W.Frag} (op : Operator) : Snd2 K (binD op) (rBin K op) := by
  intro A S x y d v w Q W eK g rx ry e h
  cases op with
  | Add =>
    cases x with
    | int a =>
      cases y with
      | int b =>
        cases e
        exact .inl ⟨a, b, rx, ry, val_ok g h rfl⟩
      | _ => cases e
    | tup a =>
      cases y with
      | tup b =>
        have e' : (if a.length + b.length ≤ line then some (D.tup (a ++ b)) else none) = some d := e
        split at e'
        · rename_i hl
          cases e'
          obtain ⟨p, vs, rfl, h1, h2, h3⟩ := rx
          obtain ⟨q, ws, rfl, k1, k2, k3⟩ := ry
          rw [line_eq] at hl
          have l1 := h3.len
          have l2 := k3.len
          refine .inr (.inl ⟨p, q, vs, ws, rfl, rfl, SqT.of h1, SqT.of k1, by omega, fun z => ?_, fun _ z => ?_, fun _ _ r n => new_tup g (h3.append k3) (by rw [List.length_append]; exact hl) h n⟩)
          · have z1 : a = [] := List.eq_nil_of_length_eq_zero (by rw [← l1, z]; rfl)
            subst z1
            exact val_ok g h ⟨q, ws, rfl, k1, by simpa using k2, by simpa using k3⟩
          · have z1 : b = [] := List.eq_nil_of_length_eq_zero (by rw [← l2, z]; rfl)
            subst z1
            exact val_ok g h ⟨p, vs, rfl, h1, by simpa using h2, by simpa using h3⟩
        · cases e'
      | _ => cases e
    | lst a =>
      cases y with
      | lst b =>
        have e' : (if a.length + b.length ≤ line then some (D.lst (a ++ b)) else none) = some d := e
        split at e'
        · rename_i hl
          cases e'
          obtain ⟨p, vs, rfl, h1, h2, h3⟩ := rx
          obtain ⟨q, ws, rfl, k1, k2, k3⟩ := ry
          rw [line_eq] at hl
          have l1 := h3.len
          have l2 := k3.len
          subst eK
          exact .inr (.inr (.inl ⟨p, q, vs, ws, rfl, rfl, h1, k1, by omega, fun r n => new_lst g (h3.append k3) (by rw [List.length_append]; exact hl) h n⟩))
        · cases e'
      | _ => cases e
    | str a =>
      cases y with
      | str b =>
        have e' : (if a.length + b.length ≤ line then some (D.str (a ++ b)) else none) = some d := e
        split at e'
        · rename_i hl
          cases e'
          rw [line_eq] at hl
          exact .inr (.inr (.inr ⟨a, b, rx, ry, hl, val_ok g h rfl⟩))
        · cases e'
      | _ => cases e
    | _ => cases y <;> cases e
  | Sub =>
    cases x with
    | int a =>
      cases y with
      | int b =>
        cases e
        exact ⟨a, b, rx, ry, val_ok g h rfl⟩
      | _ => cases e
    | _ => cases y <;> cases e
  | Mult =>
    cases x with
    | int a =>
      cases y with
      | int b =>
        have e' : (if a.natAbs.log2 + b.natAbs.log2 < 1000000 then some (D.int (a * b)) else none) = some d := e
        split at e'
        · rename_i hl
          cases e'
          exact .inl ⟨a, b, rx, ry, hl, val_ok g h rfl⟩
        · cases e'
      | _ => cases e
    | tup a =>
      cases y with
      | int k =>
        have e' : (if -1000 ≤ k ∧ k ≤ 1000 ∧ a ≠ [] ∧ a.length ≤ 1000 then some (D.tup (List.replicate k.toNat a).flatten) else none) = some d := e
        split at e'
        · rename_i hl
          obtain ⟨k1, k2, k3, k4⟩ := hl
          cases e'
          obtain ⟨p, vs, rfl, h1, h2, h3⟩ := rx
          have l1 := h3.len
          have hm : k.toNat * a.length ≤ 1000 * 1000 := Nat.mul_le_mul (by omega) k4
          have hsl := sizeLine_eq
          refine .inr (.inl ⟨p, k, vs, rfl, ry, SqT.of h1, fun z => k3 (List.eq_nil_of_length_eq_zero (by rw [← l1, z]; rfl)), k1, k2, by omega, fun z => ?_, fun _ r n => new_tup g (h3.rep k.toNat) (by rw [PyProof.Rows.lm_len_rep_flat]; omega) h n⟩)
          subst z
          exact val_ok g h ⟨p, vs, rfl, h1, by simpa using h2, by simpa using h3⟩
        · cases e'
      | _ => cases e
    | lst a =>
      cases y with
      | int k =>
        have e' : (if -1000 ≤ k ∧ k ≤ 1000 ∧ a.length ≤ 1000 then some (D.lst (List.replicate k.toNat a).flatten) else none) = some d := e
        split at e'
        · rename_i hl
          obtain ⟨k1, k2, k4⟩ := hl
          cases e'
          obtain ⟨p, vs, rfl, h1, h2, h3⟩ := rx
          have l1 := h3.len
          have hm : k.toNat * a.length ≤ 1000 * 1000 := Nat.mul_le_mul (by omega) k4
          have hsl := sizeLine_eq
          subst eK
          exact .inr (.inr ⟨p, k, vs, rfl, ry, h1, k1, k2, by omega, fun r n => new_lst g (h3.rep k.toNat) (by rw [PyProof.Rows.lm_len_rep_flat]; omega) h n⟩)
        · cases e'
      | _ => cases e
    | _ => cases y <;> cases e
  | FloorDiv =>
    cases x with
    | int a =>
      cases y with
      | int b =>
        have e' : (if b ≠ 0 ∧ b.natAbs < 1073741824 ∨ 0 < b ∧ b.natAbs.log2 < 9000 then some (D.int (a.fdiv b)) else none) = some d := e
        split at e'
        · rename_i hl
          cases e'
          rcases hl with hl | hl
          · exact .inl ⟨a, b, rx, ry, hl, val_ok g h rfl⟩
          · refine .inr ⟨a, b, rx, ry, hl, val_ok g h ?_⟩
            rw [Int.fdiv_eq_ediv_of_nonneg a (by omega)]
            exact rfl
        · cases e'
      | _ => cases e
    | _ => cases y <;> cases e
  | Mod =>
    cases x with
    | int a =>
      cases y with
      | int b =>
        have e' : (if b ≠ 0 then some (D.int (a.fmod b)) else none) = some d := e
        split at e'
        · rename_i hl
          cases e'
          exact ⟨a, b, rx, ry, hl, val_ok g h rfl⟩
        · cases e'
      | _ => cases e
    | _ => cases y <;> cases e
  | Pow =>
    cases x with
    | int a =>
      cases y with
      | int b =>
        have e' : (if 0 ≤ b ∧ b ≤ 1000000 ∧ a.natAbs < 18446744073709551616 then some (D.int (a ^ b.toNat)) else none) = some d := e
        split at e'
        · rename_i hl
          cases e'
          exact ⟨a, b, rx, ry, ⟨hl.1, hl.2.1, hl.2.2⟩, val_ok g h rfl⟩
        · cases e'
      | _ => cases e
    | _ => cases y <;> cases e
  | _ => cases x <;> cases y <;> cases e

/-! ### comparisons -/
def rCmp (K : PySem.W.Frag) : CmpOp → R2
  | .Lt => fun x y H Q => (rI0 fun i j => .bl (decide (i < j))) x y H Q ∨ rLtT K x y H Q
  | .LtE => rI0 fun i j => .bl (decide (i ≤ j))
  | .Gt => rI0 fun i j => .bl (decide (j < i))
  | .GtE => rI0 fun i j => .bl (decide (j ≤ i))
  | .Eq => rEqD K
  | .NotEq => rNeD K
  | .Is => fun x y H Q => rIsB x y H Q ∨ (y = .non ∧ Q (.bl (decide (x = .non))) H)
  | .IsNot => fun x y H Q => rNotB x y H Q ∨ (y = .non ∧ Q (.bl (!decide (x = .non))) H)
  | .In => fun x y H Q => rInD K x y H Q ∨ rInT K false x y H Q
  | .NotIn => fun x y H Q => rNotInD K x y H Q ∨ rInT K true x y H Q
theorem op_cmp {X : Cx} (hr : Room 1 X.A) : ∀ op : CmpOp, OpR X (compareOp op) (rCmp X.K op)
  | .Lt => op_lt.or (op_ltT hr.units0)
  | .LtE => op_le
  | .Gt => op_gt
  | .GtE => op_ge
  | .Eq => op_eqD hr.units
  | .NotEq => op_neD hr.units
  | .Is => op_isBl.or op_isN
  | .IsNot => op_notBl.or op_notN
  | .In => (op_inD (by have := hr.un; omega)).or (op_inT (by have := hr.un; omega))
  | .NotIn => (op_notInD (by have := hr.un; omega)).or (op_notInT (by have := hr.un; omega))
def cmpB (op : CmpOp) (x y : D) : Option D := (cmpD op x y).map D.bl
theorem isNon_of {A : At} {x : D} {v : V} (r : RelR A x v) : decide (v = .non) = isNon x := by
  cases x with
  | non => rw [show v = V.non from r]; rfl
  | bl b => rw [show v = V.bl b from r]; rfl
  | int b => rw [show v = V.int b from r]; rfl
  | str b => rw [show v = V.str b from r]; rfl
  | tup b => obtain ⟨p, vs, rfl, _⟩ := r; rfl
  | lst b => obtain ⟨p, vs, rfl, _⟩ := r; rfl
  | cell b => obtain ⟨p, _, rfl⟩ := r; rfl
  | fn b => obtain ⟨p, _, rfl⟩ := r; rfl
  | exc b => obtain ⟨p, C, rfl, _⟩ := r; rfl
  | ty b => rw [show v = V.ty b from r]; rfl
theorem any_pd (a : D) : ∀ xs : List D, (D.pdA xs).any (fun z => PyData.eqv z a.pd) = xs.any fun x => x.eqb a
  | [] => rfl
  | x :: xs => by
    show (PyData.eqv x.pd a.pd || (D.pdA xs).any _) = (x.eqb a || xs.any _)
    rw [any_pd a xs]
    rfl
theorem shA_lst {xs : List D} {n : Nat} (h : D.shA xs n = true) : (D.lst xs).sh (n + 1) = true := h
theorem shA_tup {xs : List D} {n : Nat} (h : D.shA xs n = true) : (D.tup xs).sh (n + 1) = true := h
theorem snd_cmp {K : PySem.W.Frag} (op : CmpOp) : Snd2 K (cmpB op) (rCmp K op) := by
  intro A S x y d v w Q W eK g rx ry e h
  unfold cmpB at e
  cases ec : cmpD op x y with
  | none => rw [ec] at e; cases e
  | some b =>
    rw [ec] at e
    cases e
    have q : Q (.bl b) A.H := val_ok g h rfl
    cases op with
    | Lt =>
      cases x with
      | int i =>
        cases y with
        | int j => cases ec; exact .inl ⟨i, j, rx, ry, q⟩
        | _ => cases ec
      | tup i =>
        cases y with
        | tup j =>
          obtain ⟨p, vs, rfl, h1, h2, h3⟩ := rx
          obtain ⟨r, ws, rfl, k1, k2, k3⟩ := ry
          have ec' : (match intsOf i, intsOf j with
            | some x, some y => some (HT.lexLt x y)
            | _, _ => none) = some b := ec
          split at ec'
          · rename_i ns ms e1 e2
            cases ec'
            rw [h3.ints e1] at h1
            rw [k3.ints e2] at k1
            exact .inr ⟨p, r, ns, ms, rfl, rfl, SqT.of h1, SqT.of k1, q⟩
          · cases ec'
        | _ => cases ec
      | _ => cases y <;> cases ec
    | LtE =>
      cases x with
      | int i =>
        cases y with
        | int j => cases ec; exact ⟨i, j, rx, ry, q⟩
        | _ => cases ec
      | _ => cases y <;> cases ec
    | Gt =>
      cases x with
      | int i =>
        cases y with
        | int j => cases ec; exact ⟨i, j, rx, ry, q⟩
        | _ => cases ec
      | _ => cases y <;> cases ec
    | GtE =>
      cases x with
      | int i =>
        cases y with
        | int j => cases ec; exact ⟨i, j, rx, ry, q⟩
        | _ => cases ec
      | _ => cases y <;> cases ec
    | Eq =>
      have ec' : (if x.sh 60 && y.sh 60 then some (x.eqb y) else none) = some b := by cases x <;> cases y <;> exact ec
      split at ec'
      · rename_i hs
        obtain ⟨s1, s2⟩ := Bool.and_eq_true_iff.mp hs
        cases ec'
        subst eK
        exact ⟨x.pd, y.pd, rx.dp s1, ry.dp s2, sh_shaped s1 (by decide), sh_shaped s2 (by decide), q⟩
      · cases ec'
    | NotEq =>
      have ec' : (if x.sh 60 && y.sh 60 then some (!x.eqb y) else none) = some b := by cases x <;> cases y <;> exact ec
      split at ec'
      · rename_i hs
        obtain ⟨s1, s2⟩ := Bool.and_eq_true_iff.mp hs
        cases ec'
        subst eK
        exact ⟨x.pd, y.pd, rx.dp s1, ry.dp s2, sh_shaped s1 (by decide), sh_shaped s2 (by decide), q⟩
      · cases ec'
    | Is =>
      have hn := isNon_of rx
      cases y with
      | non =>
        have ec' : some (isNon x) = some b := by cases x <;> exact ec
        cases ec'
        exact .inr ⟨ry, by rw [hn]; exact q⟩
      | bl j =>
        cases x with
        | bl i => cases ec; exact .inl ⟨i, j, rx, ry, q⟩
        | _ => cases ec
      | _ => cases x <;> cases ec
    | IsNot =>
      have hn := isNon_of rx
      cases y with
      | non =>
        have ec' : some (!isNon x) = some b := by cases x <;> exact ec
        cases ec'
        exact .inr ⟨ry, by rw [hn]; exact q⟩
      | bl j =>
        cases x with
        | bl i => cases ec; exact .inl ⟨i, j, rx, ry, q⟩
        | _ => cases ec
      | _ => cases x <;> cases ec
    | In =>
      cases y with
      | lst xs =>
        have ec' : (if x.sh 60 && D.shA xs 58 then some (xs.any fun z => z.eqb x) else none) = some b := by cases x <;> exact ec
        split at ec'
        · rename_i hs
          obtain ⟨s1, s2⟩ := Bool.and_eq_true_iff.mp hs
          cases ec'
          subst eK
          exact .inl ⟨x.pd, D.pdA xs, rx.dp s1, ry.dp (shA_lst s2), sh_shaped s1 (by decide), sh_shaped (shA_lst s2) (by decide), by rw [any_pd]; exact q⟩
        · cases ec'
      | tup xs =>
        have ec' : (if x.sh 60 && D.shA xs 58 then some (xs.any fun z => z.eqb x) else none) = some b := by cases x <;> exact ec
        split at ec'
        · rename_i hs
          obtain ⟨s1, s2⟩ := Bool.and_eq_true_iff.mp hs
          cases ec'
          subst eK
          refine .inr ⟨x.pd, D.pdA xs, rx.dp s1, ry.dp (shA_tup s2), sh_shaped s1 (by decide), sh_shaped (shA_tup s2) (by decide), ?_⟩
          rw [any_pd]
          exact q
        · cases ec'
      | _ => cases x <;> cases ec
    | NotIn =>
      cases y with
      | lst xs =>
        have ec' : (if x.sh 60 && D.shA xs 58 then some (!xs.any fun z => z.eqb x) else none) = some b := by cases x <;> exact ec
        split at ec'
        · rename_i hs
          obtain ⟨s1, s2⟩ := Bool.and_eq_true_iff.mp hs
          cases ec'
          subst eK
          exact .inl ⟨x.pd, D.pdA xs, rx.dp s1, ry.dp (shA_lst s2), sh_shaped s1 (by decide), sh_shaped (shA_lst s2) (by decide), by rw [any_pd]; exact q⟩
        · cases ec'
      | tup xs =>
        have ec' : (if x.sh 60 && D.shA xs 58 then some (!xs.any fun z => z.eqb x) else none) = some b := by cases x <;> exact ec
        split at ec'
        · rename_i hs
          obtain ⟨s1, s2⟩ := Bool.and_eq_true_iff.mp hs
          cases ec'
          subst eK
          refine .inr ⟨x.pd, D.pdA xs, rx.dp s1, ry.dp (shA_tup s2), sh_shaped s1 (by decide), sh_shaped (shA_tup s2) (by decide), ?_⟩
          rw [any_pd]
          exact q
        · cases ec'
      | _ => cases x <;> cases ec
end LC

end
section
set_option maxHeartbeats 1000000
/-! LC6: sorted, of a list or a tuple of alike data. -/
namespace LC
open PySem PySem.Spec PyProof.Rows L2 PySem.W PySem.Calls
section
variable {prog : Program} {w : World} {A : Around} {E : Value → Shared → Prop} {s : Shared} {β : Type} {vs : List Value} {bs : List β} {enc : β → PyData} {R : Value → β → Prop}
theorem sorted_any {v : Value} {Q : Value → Shared → Prop}
    (hcol : ∀ (A' : Around) (E' : Value → Shared → Prop) (Q' : List Value → Shared → Prop), A'.handled = A.handled → (∀ h', (∀ b o, s.heap.get? b = some o → h'.get? b = some o) → Q' vs { s with heap := h' }) → wpAny (model prog w) A' (collect v) Q' E' s)
    (e : EachIs R vs bs) (er : EachIs (fun v b => ∃ as, Reads s.heap v (enc b) as) vs bs) (hal : AllAlike (bs.map enc)) (hk : Sortable (bs.map enc)) (hL : bs.length ≤ sizeLine) (hu : ∀ b, b ∈ bs → A.units + 2 + (enc b).depth < cLine)
    (h : ∀ (out : List Value) (h' : Heap) (a : Addr) (n : Nat), s.heap.get? a = none → (∀ b o, s.heap.get? b = some o → h'.get? b = some o) → h'.get? a = some (seqObj "list" out.toArray n) → out.length = bs.length → EachIs R out (bs.mergeSort (dataLe false enc)) → Q (.ref a) { s with heap := h' }) :
    wpAny (model prog w) A (call (.builtin "sorted") [v]) Q E s := by
  refine call_function_entry_kw kind_sorted plain_sorted entry_sorted (args_sorted1 _) ?_
  unfold Builtin.«sorted»
  refine wpAny_bind (m := checkCount "sorted" 1 1 _) (wpAny_pure ?_)
  refine wpAny_bind (hcol _ _ _ rfl fun h1 k1 => ?_)
  have hvl : vs.length = bs.length := e.length
  refine wpAny_bind (wpAny_newList ?_ (by rw [hvl]; exact hL))
  have hat : (h1.push (seqObj "list" vs.toArray 0)).get? h1.objs.size = some (seqObj "list" vs.toArray 0) := Heap.get?_push_size _ rfl
  have hne : s.heap.get? h1.objs.size = none := by
    cases q : s.heap.get? h1.objs.size with
    | none => rfl
    | some o => exact absurd (Heap.lt_size (k1 _ _ q)) (Nat.lt_irrefl _)
  have hlt : ∀ b o, s.heap.get? b = some o → b ≠ h1.objs.size := fun b o q => Nat.ne_of_lt (Heap.lt_size (k1 b o q))
  have old : ∀ b o, s.heap.get? b = some o → (h1.push (seqObj "list" vs.toArray 0)).get? b = some o := fun b o q => Heap.get?_push_of_some _ (k1 b o q)
  have er' : EachIs (fun v b => ∃ as, Reads (sortingHeap (h1.push (seqObj "list" vs.toArray 0)) h1.objs.size vs) v (enc b) as) vs bs := er.mono fun _ _ ⟨as, r⟩ => ⟨as, PyProof.Rows.Reads.keeps (fun b o q => sortingHeap_old (hlt b o q) (old b o q)) r⟩
  refine wpAny_bind (wpAny_holding (wpAny_call_entry_kw slot_list_sort ⟨_, hat, rfl⟩ entry_list_sort ?body (args_list_sort _)))
  case body =>
    refine wpAny_mono (list_sort_vals (s := { s with heap := h1.push (seqObj "list" vs.toArray 0) }) (κ := dataKind (sortingHeap (h1.push (seqObj "list" vs.toArray 0)) h1.objs.size vs) (bs.map enc)) hat
      (SortsAt.data (s := { s with heap := sortingHeap (h1.push (seqObj "list" vs.toArray 0)) h1.objs.size vs }) (each_map (R := fun v d => ∃ as, Reads (sortingHeap (h1.push (seqObj "list" vs.toArray 0)) h1.objs.size vs) v d as) enc er') hal hk (bound_map hu)) (by rw [hvl]; exact hL)
      (P := fun f s' => f = .done (.ret .none) ∧ Q (.ref h1.objs.size) s') ⟨rfl, ?_⟩) (fun f s' hf => ?_) fun _ _ e => e
    · obtain ⟨c, hc⟩ := sortedHeap_at (h := h1.push (seqObj "list" vs.toArray 0)) (a := h1.objs.size) (vs := vs) (n := 0) (out := (sortVals (dataKind (sortingHeap (h1.push (seqObj "list" vs.toArray 0)) h1.objs.size vs) (bs.map enc)) false vs vs).toArray) hat
      refine h _ _ _ c hne (fun b o q => ?_) hc (by rw [sortVals_length false rfl]; exact hvl) (sortVals_data false e er' hal)
      rw [sortedHeap_old (hlt b o q) (Heap.lt_size (old b o q))]
      exact old b o q
    · obtain ⟨rfl, hq⟩ := hf
      exact ⟨_, rfl, wpAny_pure ⟨_, rfl, hq⟩⟩
end
theorem EachIs.zipV {R : Value → V → Prop} : ∀ {its : List Value} {xs : List V}, Vals xs its → (∀ v x, RelV x v → R v x) → EachIs R its xs
  | _, _, .nil, _ => .nil
  | _, _, .cons r t, h => .cons (h _ _ r) (EachIs.zipV t h)
/-- the sorted places -/
def sortP (ps : List (V × PyData)) : List (V × PyData) := ps.mergeSort (dataLe false Prod.snd)
def rSortG (K : PySem.W.Frag) (A : Around) : List V → Hp → VK → Prop := fun vs H Q => ∃ (a : Addr) (xs : List V) (ds : List PyData), vs = [V.ref a] ∧ (SqL K H a xs ∨ SqT K H a xs) ∧ DpAll K H xs ds ∧ AllAlike ds ∧ Sortable ds ∧ (∀ d ∈ ds, A.units + 2 + d.depth < cLine) ∧
  ∀ p, H p = none → Q (.ref p) (upd H p (.lst ((sortP (xs.zip ds)).map Prod.fst)))
theorem dpAll_len {K : PySem.W.Frag} {H : Hp} : ∀ {vs : List V} {ds : List PyData}, DpAll K H vs ds → vs.length = ds.length
  | _, _, .nil => rfl
  | _, _, .cons _ t => by rw [List.length_cons, List.length_cons, dpAll_len t]
theorem each_zip {R : Value → V × PyData → Prop} : ∀ {its : List Value} {xs : List V} {ds : List PyData}, Vals xs its → xs.length = ds.length → (∀ v x d, RelV x v → R v (x, d)) → EachIs R its (xs.zip ds)
  | _, _, [], .nil, _, _ => .nil
  | _, _, d :: ds, .cons r t, hl, h => .cons (h _ _ _ r) (each_zip t (by simpa using hl) h)
  | _, _, [], .cons r t, hl, h => by cases hl
  | _, _, d :: ds, .nil, hl, h => by cases hl
theorem each_reads {h : Heap} : ∀ {its : List Value} {xs : List V} {ds : List PyData} {as : List Addr}, Vals xs its → ReadsAll h its ds as → EachIs (fun v (b : V × PyData) => ∃ as, Reads h v b.2 as) its (xs.zip ds)
  | _, _, [], _, .nil, r => .nil
  | _, _, d :: ds, _, .cons r t, q => by
    cases q with
    | cons h1 h2 => exact .cons ⟨_, h1⟩ (each_reads t h2)
  | _, _, [], _, .cons r t, q => by cases q
  | _, _, d :: ds, _, .nil, q => by cases q
theorem vals_of_each {ps : List (V × PyData)} : ∀ {out : List Value}, EachIs (fun v (b : V × PyData) => RelV b.1 v) out ps → Vals (ps.map Prod.fst) out := by
  induction ps with
  | nil =>
    intro out e
    cases e
    exact .nil
  | cons p ps ih =>
    intro out e
    cases e with
    | cons h t => exact .cons h (ih t)
theorem cr_sortG {X : Cx} (hh : X.A.handled = none) : CallR X (.builtin "sorted") (rSortG X.K X.A) := by
  intro pins s σ H vs us Q I r h
  obtain ⟨a, xs, ds, rfl, hs, hd, hal, hk, hu, q⟩ := h
  rw [Vals.ref1 r]
  have core : ∀ (its : List Value), Vals xs its → xs.length ≤ sizeLine → (∃ (T : String) (o : Obj) (n : Nat), (T = "list" ∨ T = "tuple") ∧ s.heap.get? a = some o ∧ o.cls = .type T ∧ o.data = .seq its.toArray n) →
      wpAny (model X.prog X.w) X.A (call (.builtin "sorted") [.ref a]) (EP X pins σ Q) X.xe s := fun its rv hz ⟨T, o, n, hT, ho, hc, hdt⟩ => by
    have hl : xs.length = ds.length := dpAll_len hd
    obtain ⟨as, hr⟩ := Dp.readsAll I ds xs its hd rv
    have em : (xs.zip ds).map Prod.snd = ds := List.map_snd_zip (by omega)
    refine sorted_any (bs := xs.zip ds) (enc := Prod.snd) (R := fun v b => RelV b.1 v) (fun A' E' Q' hA k => wpAny_collect_seq a hT ho hc hdt (fun h' k' => k h' k') (by rw [List.size_toArray, ← rv.length]; exact hz))
      (each_zip rv hl fun _ _ _ r => r) (each_reads rv hr) (by rw [em]; exact hal) (by rw [em]; exact hk) (by rw [List.length_zip]; omega) (fun b hb => hu b.2 (by rw [← em]; exact List.mem_map.mpr ⟨b, hb, rfl⟩)) fun out h' p n hn kp hat hlen hout => ?_
    have hnH : H p = none := I.hok.gone hn
    have hv : Vals ((sortP (xs.zip ds)).map Prod.fst) out := vals_of_each hout
    exact ⟨.ref p, upd H p (.lst ((sortP (xs.zip ds)).map Prod.fst)), I.laidN (t' := s.toks) kp hn hnH ⟨by rw [hv.length, hlen, List.length_zip]; omega, out, n, hv, hat⟩, rfl, q p hnH⟩
  rcases hs with hs | hs
  · obtain ⟨its, rv, ⟨o, n, ho, hc, _, hdt⟩, hz⟩ := I.list hs
    exact core its rv hz ⟨"list", o, n, .inl rfl, ho, hc, hdt⟩
  · obtain ⟨its, rv, ⟨o, ho, hc, n, hdt⟩, hz⟩ := I.tuple hs
    exact core its rv hz ⟨"tuple", o, n, .inr rfl, ho, hc, hdt⟩
end LC

end
section
set_option maxHeartbeats 1000000
/-! LC7: arguments, displays, indices, slices, the built-ins. -/
namespace LC
open PySem PySem.Spec PyProof.Rows L2

/-! ### the built-ins, by values -/
inductive BF where
  | len | abs | all | any | sum | max | min | sorted | tuple | list | int
  deriving DecidableEq
def maxL : List Int → Int
  | [] => 0
  | [a] => a
  | a :: b :: r => max a (maxL (b :: r))
def minL : List Int → Int
  | [] => 0
  | [a] => a
  | a :: b :: r => min a (minL (b :: r))
theorem maxL_spec : ∀ {ns : List Int}, ns ≠ [] → maxL ns ∈ ns ∧ ∀ y ∈ ns, y ≤ maxL ns
  | [], h => absurd rfl h
  | [a], _ => by simp [maxL]
  | a :: b :: r, _ => by
    obtain ⟨h1, h2⟩ := maxL_spec (ns := b :: r) (by simp)
    have e : maxL (a :: b :: r) = max a (maxL (b :: r)) := rfl
    rw [e]
    refine ⟨?_, fun y hy => ?_⟩
    · rcases Int.le_total a (maxL (b :: r)) with q | q
      · rw [Int.max_eq_right q]; exact List.mem_cons_of_mem _ h1
      · rw [Int.max_eq_left q]; exact List.mem_cons_self
    · rcases List.mem_cons.mp hy with rfl | hy
      · exact Int.le_max_left _ _
      · exact Int.le_trans (h2 y hy) (Int.le_max_right _ _)
theorem minL_spec : ∀ {ns : List Int}, ns ≠ [] → minL ns ∈ ns ∧ ∀ y ∈ ns, minL ns ≤ y
  | [], h => absurd rfl h
  | [a], _ => by simp [minL]
  | a :: b :: r, _ => by
    obtain ⟨h1, h2⟩ := minL_spec (ns := b :: r) (by simp)
    have e : minL (a :: b :: r) = min a (minL (b :: r)) := rfl
    rw [e]
    refine ⟨?_, fun y hy => ?_⟩
    · rcases Int.le_total a (minL (b :: r)) with q | q
      · rw [Int.min_eq_left q]; exact List.mem_cons_self
      · rw [Int.min_eq_right q]; exact List.mem_cons_of_mem _ h1
    · rcases List.mem_cons.mp hy with rfl | hy
      · exact Int.min_le_left _ _
      · exact Int.le_trans (Int.min_le_right _ _) (h2 y hy)
def alikeB (ds : List PyData) : Bool := ds.all fun a => ds.all fun b => PySem.W.alike a b
def neTup : D → Bool
  | .tup (_ :: _) => true
  | _ => false
def noTup : D → Bool
  | .tup _ => false
  | .non => false
  | _ => true
def sortOk (xs : List D) : Bool := alikeB (D.pdA xs) && (D.shA xs 58 && (xs.all neTup || xs.all noTup))
def sortD (xs : List D) : List D := xs.mergeSort (PySem.W.dataLe false D.pd)
def fB : BF → Store → List D → Option D
  | .len, S, [x] => match vw S x with
    | .tup xs => some (.int xs.length)
    | .lst xs => some (.int xs.length)
    | .str z => if z.length ≤ line then some (.int z.length) else none
    | _ => none
  | .abs, _, [.int i] => some (.int (if i < 0 then -i else i))
  | .all, S, [x] => match vw S x with
    | .lst xs => (blsOf xs).map fun b => .bl (b.all id)
    | _ => none
  | .any, S, [x] => match vw S x with
    | .lst xs => (blsOf xs).map fun b => .bl (b.any id)
    | _ => none
  | .sum, S, [x] => match vw S x with
    | .lst xs => (intsOf xs).map fun b => .int b.sum
    | _ => none
  | .max, S, [x] => match vw S x with
    | .lst (y :: xs) => (intsOf (y :: xs)).map fun b => .int (maxL b)
    | _ => none
  | .min, S, [x] => match vw S x with
    | .lst (y :: xs) => (intsOf (y :: xs)).map fun b => .int (minL b)
    | _ => none
  | .max, _, [.int i, .int j] => some (.int (if j > i then j else i))
  | .min, _, [.int i, .int j] => some (.int (if j < i then j else i))
  | .sorted, S, [x] => match vw S x with
    | .tup xs => if sortOk xs then some (.lst (sortD xs)) else none
    | .lst xs => if sortOk xs then some (.lst (sortD xs)) else none
    | _ => none
  | .tuple, S, [x] => match vw S x with
    | .tup xs => some (.tup xs)
    | .lst xs => some (.tup xs)
    | _ => none
  | .list, S, [x] => match vw S x with
    | .tup xs => some (.lst xs)
    | .lst xs => some (.lst xs)
    | _ => none
  | .int, _, [.int i] => some (.int i)
  | .int, _, [.bl b] => some (.int (if b then 1 else 0))
  | _, _, _ => none
def SndA (K : PySem.W.Frag) (f : Store → List D → Option D) (r : List V → Hp → VK → Prop) : Prop :=
  ∀ (A : At) (S : Store) (ds : List D) (d : D) (vs : List V) (Q : VK) (W : XK), A.K = K → Gd A S → RelL A ds vs → f S ds = some d → Post Rel A (.ok d S) Q W → r vs A.H Q
theorem SndA.or1 {K : PySem.W.Frag} {f : Store → List D → Option D} {r r' : List V → Hp → VK → Prop} (h : SndA K f r) : SndA K f (fun x H Q => r x H Q ∨ r' x H Q) := fun A S x d v Q W k g a e p => .inl (h A S x d v Q W k g a e p)

theorem sort_rel {A : At} {ds : List D} {vs : List V} (r : RelL A ds vs) : RelL A (sortD ds) ((sortP (vs.zip (D.pdA ds))).map Prod.fst) := by
  have hl := r.len
  -- the pairs of value and datum
  have h1 : sortP (vs.zip (D.pdA ds)) = ((vs.zip ds).mergeSort (PySem.W.dataLe false fun p : V × D => p.2.pd)).map fun p => (p.1, p.2.pd) := by
    have e : vs.zip (D.pdA ds) = (vs.zip ds).map fun p => (p.1, p.2.pd) := by
      rw [pdA_map, ← List.map_id vs, List.zip_map]
      simp [Prod.map]
    unfold sortP
    rw [e]
    exact (List.map_mergeSort (f := fun p : V × D => (p.1, p.2.pd)) (r := PySem.W.dataLe false fun p : V × D => p.2.pd) (s := PySem.W.dataLe false Prod.snd) (l := vs.zip ds) fun _ _ _ _ => rfl).symm
  have h2 : sortD ds = ((vs.zip ds).mergeSort (PySem.W.dataLe false fun p : V × D => p.2.pd)).map Prod.snd := by
    unfold sortD
    have e : ds = (vs.zip ds).map Prod.snd := (List.map_snd_zip (by omega)).symm
    conv => lhs; rw [e]
    exact (List.map_mergeSort (f := (Prod.snd : V × D → D)) (r := PySem.W.dataLe false fun p : V × D => p.2.pd) (s := PySem.W.dataLe false D.pd) (l := vs.zip ds) fun _ _ _ _ => rfl).symm
  rw [h1, h2, List.map_map]
  have hall : ∀ p ∈ vs.zip ds, Rel A p.2 p.1 := by
    clear h1 h2 hl
    induction ds generalizing vs with
    | nil => intro p hp; simp at hp
    | cons d ds ih =>
      obtain ⟨v, q, rfl, k1, k2⟩ := r
      intro p hp
      rw [List.zip_cons_cons] at hp
      rcases List.mem_cons.mp hp with rfl | hp
      · exact k1
      · exact ih k2 p hp
  have hall2 : ∀ p ∈ (vs.zip ds).mergeSort (PySem.W.dataLe false fun p : V × D => p.2.pd), Rel A p.2 p.1 := fun p hp => hall p (List.mem_mergeSort.mp hp)
  revert hall2
  generalize (vs.zip ds).mergeSort (PySem.W.dataLe false fun p : V × D => p.2.pd) = zs
  intro hall2
  induction zs with
  | nil => exact .nil
  | cons z zs ih => exact .cons (hall2 z List.mem_cons_self) (ih fun p hp => hall2 p (List.mem_cons_of_mem _ hp))
theorem sortD_len (xs : List D) : (sortD xs).length = xs.length := List.length_mergeSort ..
theorem alikeB_ok {ds : List PyData} (h : alikeB ds = true) : PySem.W.AllAlike ds := fun d hd d' hd' => List.all_eq_true.mp (List.all_eq_true.mp h d hd) d' hd'
theorem shA_mem {n : Nat} : ∀ {xs : List D} {x : D}, D.shA xs n = true → x ∈ xs → x.sh n = true
  | [], _, _, hx => by cases hx
  | z :: zs, x, hs, hx => by
    obtain ⟨a, b⟩ := Bool.and_eq_true_iff.mp (show (D.sh z n && D.shA zs n) = true from hs)
    rcases List.mem_cons.mp hx with rfl | hx
    · exact a
    · exact shA_mem b hx
theorem sortable_ok {xs : List D} (h : (xs.all neTup || xs.all noTup) = true) (hs : D.shA xs 58 = true) : PySem.W.Sortable (D.pdA xs) := by
  rw [pdA_map]
  rcases Bool.or_eq_true_iff.mp h with h | h
  · refine .inl fun d hd => ?_
    obtain ⟨x, hx, rfl⟩ := List.mem_map.mp hd
    have := List.all_eq_true.mp h x hx
    cases x with
    | tup ys =>
      cases ys with
      | nil => cases this
      | cons y ys => exact ⟨y.pd, D.pdA ys, rfl⟩
    | _ => cases this
  · refine .inr fun d hd => ?_
    obtain ⟨x, hx, rfl⟩ := List.mem_map.mp hd
    have hx2 := List.all_eq_true.mp h x hx
    have hsx : x.sh 58 = true := shA_mem hs hx
    cases x with
    | tup ys => cases hx2
    | non => cases hx2
    | bl b => exact ⟨(fun z => by cases z), (fun _ z => by cases z)⟩
    | int b => exact ⟨(fun z => by cases z), (fun _ z => by cases z)⟩
    | str b => exact ⟨(fun z => by cases z), (fun _ z => by cases z)⟩
    | lst b => exact ⟨(fun z => by cases z), (fun _ z => by cases z)⟩
    | cell b => cases hsx
    | fn b => cases hsx
    | exc b => cases hsx
    | ty b => cases hsx
theorem depth_ok {ds : List PyData} {n : Nat} (h : PyData.depthAll ds ≤ n) : ∀ d ∈ ds, d.depth ≤ n := by
  induction ds with
  | nil => intro d hd; cases hd
  | cons x xs ih =>
    have h' : max x.depth (PyData.depthAll xs) ≤ n := h
    intro d hd
    rcases List.mem_cons.mp hd with rfl | hd
    · exact Nat.le_trans (Nat.le_max_left _ _) h'
    · exact ih (Nat.le_trans (Nat.le_max_right _ _) h') d hd
def rBF (K : PySem.W.Frag) (A : Around) : BF → List V → Hp → VK → Prop
  | .len => fun xs H Q => (∃ p ys, xs = [.ref p] ∧ (SqL K H p ys ∨ SqT K H p ys) ∧ Q (.int ys.length) H) ∨ (∃ z : Str, xs = [.str z] ∧ z.length ≤ sizeLine ∧ Q (.int z.length) H)
  | .abs => fun xs H Q => ∃ i, xs = [.int i] ∧ Q (.int (if i < 0 then -i else i)) H
  | .all => rAll K
  | .any => rAny K
  | .sum => rSum K
  | .max => fun xs H Q => rMax K xs H Q ∨ (∃ i j, xs = [.int i, .int j] ∧ Q (.int (if j > i then j else i)) H)
  | .min => fun xs H Q => rMin K xs H Q ∨ (∃ i j, xs = [.int i, .int j] ∧ Q (.int (if j < i then j else i)) H)
  | .sorted => rSortG K A
  | .tuple => fun xs H Q => ∃ p ys, xs = [.ref p] ∧ ((SqL K H p ys ∧ ∀ l, H l = none → Q (.ref l) (upd H l (.tup ys))) ∨ (SqT K H p ys ∧ Q (.ref p) H))
  | .list => fun xs H Q => ∃ p ys, xs = [.ref p] ∧ (SqL K H p ys ∨ SqT K H p ys) ∧ ∀ l, H l = none → Q (.ref l) (upd H l (.lst ys))
  | .int => fun xs H Q => (∃ i, xs = [.int i] ∧ Q (.int i) H) ∨ ∃ k, xs = [.bl k] ∧ Q (.int (if k then 1 else 0)) H
def BF.isTy : BF → Bool
  | .tuple => true
  | .list => true
  | .int => true
  | _ => false
def BF.id : BF → String
  | .len => "len" | .abs => "abs" | .all => "all" | .any => "any" | .sum => "sum" | .max => "max" | .min => "min" | .sorted => "sorted" | .tuple => "tuple" | .list => "list" | .int => "int"
def BF.val (b : BF) : Value := if b.isTy then .type b.id else .builtin b.id
theorem call_bf {X : Cx} (hc : X.calm = true) (hh : X.A.handled = none) : ∀ b : BF, CallR X b.val (rBF X.K X.A b)
  | .len => call_len_seq.or call_len_str
  | .abs => call_abs
  | .all => cr_all hc
  | .any => cr_any hc
  | .sum => cr_sum hc
  | .max => (cr_max hc).or (call_max2 hc)
  | .min => (cr_min hc).or (call_min2 hc)
  | .sorted => cr_sortG hh
  | .tuple => call_tuple_of
  | .list => call_list_of
  | .int => call_int1
theorem RelL.one' {A : At} {d : D} {vs : List V} (h : RelL A [d] vs) : ∃ v, vs = [v] ∧ Rel A d v := by
  obtain ⟨v, r, rfl, h1, h2⟩ := h
  rw [show r = [] from h2]
  exact ⟨v, rfl, h1⟩
theorem RelL.two' {A : At} {d e : D} {vs : List V} (h : RelL A [d, e] vs) : ∃ v w, vs = [v, w] ∧ Rel A d v ∧ Rel A e w := by
  obtain ⟨v, r, rfl, h1, h2⟩ := h
  obtain ⟨w, rfl, h3⟩ := h2.one'
  exact ⟨v, w, rfl, h1, h3⟩
theorem snd_bf {K : PySem.W.Frag} {Ar : Around} (hu : Ar.units + 70 < cLine) (b : BF) : SndA K (fB b) (rBF K Ar b) := by
  intro A S ds d vs Q W eK g r e h
  subst eK
  cases b with
  | len =>
    match ds, e with
    | [x], e =>
      obtain ⟨v, rfl, r1⟩ := r.one'
      have r2 := vw_rel g r1
      have e' : (match vw S x with
        | .tup xs => some (D.int xs.length)
        | .lst xs => some (.int xs.length)
        | .str z => if z.length ≤ line then some (.int z.length) else none
        | _ => none) = some d := e
      cases q : vw S x with
      | tup xs =>
        rw [q] at e' r2
        cases e'
        obtain ⟨p, ws, rfl, h1, h2, h3⟩ := r2
        exact .inl ⟨p, ws, rfl, .inr (SqT.of h1), val_ok g h (by show V.int _ = V.int _; rw [h3.len])⟩
      | lst xs =>
        rw [q] at e' r2
        cases e'
        obtain ⟨p, ws, rfl, h1, h2, h3⟩ := r2
        exact .inl ⟨p, ws, rfl, .inl h1, val_ok g h (by show V.int _ = V.int _; rw [h3.len])⟩
      | str z =>
        rw [q] at e' r2
        simp only at e'
        split at e'
        · rename_i hz
          cases e'
          rw [line_eq] at hz
          exact .inr ⟨z, by rw [show v = V.str z from r2], hz, val_ok g h rfl⟩
        · cases e'
      | _ => rw [q] at e'; cases e'
  | abs =>
    match ds, e with
    | [.int i], e =>
      obtain ⟨v, rfl, r1⟩ := r.one'
      cases e
      exact ⟨i, by rw [show v = V.int i from r1], val_ok g h rfl⟩
  | all =>
    match ds, e with
    | [x], e =>
      obtain ⟨v, rfl, r1⟩ := r.one'
      have r2 := vw_rel g r1
      have e' : (match vw S x with
        | .lst xs => (blsOf xs).map fun b => D.bl (b.all id)
        | _ => none) = some d := e
      cases q : vw S x with
      | lst xs =>
        rw [q] at e' r2
        obtain ⟨p, ws, rfl, h1, h2, h3⟩ := r2
        simp only at e'
        cases eb : blsOf xs with
        | none => rw [eb] at e'; cases e'
        | some bs =>
          rw [eb] at e'
          cases e'
          rw [h3.bls eb] at h1
          exact ⟨p, bs, rfl, h1, val_ok g h rfl⟩
      | _ => rw [q] at e'; cases e'
  | any =>
    match ds, e with
    | [x], e =>
      obtain ⟨v, rfl, r1⟩ := r.one'
      have r2 := vw_rel g r1
      have e' : (match vw S x with
        | .lst xs => (blsOf xs).map fun b => D.bl (b.any id)
        | _ => none) = some d := e
      cases q : vw S x with
      | lst xs =>
        rw [q] at e' r2
        obtain ⟨p, ws, rfl, h1, h2, h3⟩ := r2
        simp only at e'
        cases eb : blsOf xs with
        | none => rw [eb] at e'; cases e'
        | some bs =>
          rw [eb] at e'
          cases e'
          rw [h3.bls eb] at h1
          exact ⟨p, bs, rfl, h1, val_ok g h rfl⟩
      | _ => rw [q] at e'; cases e'
  | sum =>
    match ds, e with
    | [x], e =>
      obtain ⟨v, rfl, r1⟩ := r.one'
      have r2 := vw_rel g r1
      have e' : (match vw S x with
        | .lst xs => (intsOf xs).map fun b => D.int b.sum
        | _ => none) = some d := e
      cases q : vw S x with
      | lst xs =>
        rw [q] at e' r2
        obtain ⟨p, ws, rfl, h1, h2, h3⟩ := r2
        simp only at e'
        cases eb : intsOf xs with
        | none => rw [eb] at e'; cases e'
        | some bs =>
          rw [eb] at e'
          cases e'
          rw [h3.ints eb] at h1
          exact ⟨p, bs, rfl, h1, val_ok g h rfl⟩
      | _ => rw [q] at e'; cases e'
  | max =>
    match ds, e with
    | [x], e =>
      obtain ⟨v, rfl, r1⟩ := r.one'
      have r2 := vw_rel g r1
      have e' : (match vw S x with
        | .lst (y :: xs) => (intsOf (y :: xs)).map fun b => D.int (maxL b)
        | _ => none) = some d := by
        cases x <;> exact e
      cases q : vw S x with
      | lst xs =>
        rw [q] at e' r2
        obtain ⟨p, ws, rfl, h1, h2, h3⟩ := r2
        cases xs with
        | nil => cases e'
        | cons y xs =>
          simp only at e'
          cases eb : intsOf (y :: xs) with
          | none => rw [eb] at e'; cases e'
          | some bs =>
            rw [eb] at e'
            cases e'
            have hws := h3.ints eb
            have hne : bs ≠ [] := fun z => by
              have := h3.len
              rw [hws, z] at this
              cases this
            rw [hws] at h1
            refine .inl ⟨p, bs, rfl, h1, List.length_pos_iff.mpr hne, fun m hm hy => ?_⟩
            obtain ⟨k1, k2⟩ := maxL_spec hne
            have em : m = maxL bs := Int.le_antisymm (k2 m hm) (hy _ k1)
            rw [em]
            exact val_ok g h rfl
      | _ => rw [q] at e'; cases e'
    | [.int i, .int j], e =>
      obtain ⟨v, w, rfl, r1, r2⟩ := r.two'
      cases e
      exact .inr ⟨i, j, by rw [show v = V.int i from r1, show w = V.int j from r2], val_ok g h rfl⟩
  | min =>
    match ds, e with
    | [x], e =>
      obtain ⟨v, rfl, r1⟩ := r.one'
      have r2 := vw_rel g r1
      have e' : (match vw S x with
        | .lst (y :: xs) => (intsOf (y :: xs)).map fun b => D.int (minL b)
        | _ => none) = some d := by
        cases x <;> exact e
      cases q : vw S x with
      | lst xs =>
        rw [q] at e' r2
        obtain ⟨p, ws, rfl, h1, h2, h3⟩ := r2
        cases xs with
        | nil => cases e'
        | cons y xs =>
          simp only at e'
          cases eb : intsOf (y :: xs) with
          | none => rw [eb] at e'; cases e'
          | some bs =>
            rw [eb] at e'
            cases e'
            have hws := h3.ints eb
            have hne : bs ≠ [] := fun z => by
              have := h3.len
              rw [hws, z] at this
              cases this
            rw [hws] at h1
            refine .inl ⟨p, bs, rfl, h1, List.length_pos_iff.mpr hne, fun m hm hy => ?_⟩
            obtain ⟨k1, k2⟩ := minL_spec hne
            have em : m = minL bs := Int.le_antisymm (hy _ k1) (k2 m hm)
            rw [em]
            exact val_ok g h rfl
      | _ => rw [q] at e'; cases e'
    | [.int i, .int j], e =>
      obtain ⟨v, w, rfl, r1, r2⟩ := r.two'
      cases e
      exact .inr ⟨i, j, by rw [show v = V.int i from r1, show w = V.int j from r2], val_ok g h rfl⟩
  | sorted =>
    match ds, e with
    | [x], e =>
      obtain ⟨v, rfl, r1⟩ := r.one'
      have r2 := vw_rel g r1
      have e' : (match vw S x with
        | .tup xs => if sortOk xs then some (D.lst (sortD xs)) else none
        | .lst xs => if sortOk xs then some (.lst (sortD xs)) else none
        | _ => none) = some d := e
      have fin : ∀ (xs : List D) (p : Addr) (ws : List V), (if sortOk xs then some (D.lst (sortD xs)) else none) = some d → (SqL A.K A.H p ws ∨ SqT A.K A.H p ws) → xs.length ≤ sizeLine → RelL A xs ws → rSortG A.K Ar [V.ref p] A.H Q := fun xs p ws e1 h1 h2 h3 => by
        split at e1
        · rename_i hs
          cases e1
          obtain ⟨s1, s2⟩ := Bool.and_eq_true_iff.mp hs
          obtain ⟨s2, s3⟩ := Bool.and_eq_true_iff.mp s2
          refine ⟨p, ws, D.pdA xs, rfl, h1, RelL.dp xs ws 58 s2 h3, alikeB_ok s1, sortable_ok s3 s2, fun z hz => ?_, fun l n => new_lst g (sort_rel h3) (by rw [sortD_len]; exact h2) h n⟩
          have := depth_ok (shA_can xs 58 s2).2 z hz
          omega
        · cases e1
      cases q : vw S x with
      | tup xs =>
        rw [q] at e' r2
        obtain ⟨p, ws, rfl, h1, h2, h3⟩ := r2
        exact fin xs p ws e' (.inr (SqT.of h1)) h2 h3
      | lst xs =>
        rw [q] at e' r2
        obtain ⟨p, ws, rfl, h1, h2, h3⟩ := r2
        exact fin xs p ws e' (.inl h1) h2 h3
      | _ => rw [q] at e'; cases e'
  | tuple =>
    match ds, e with
    | [x], e =>
      obtain ⟨v, rfl, r1⟩ := r.one'
      have r2 := vw_rel g r1
      have e' : (match vw S x with
        | .tup xs => some (D.tup xs)
        | .lst xs => some (.tup xs)
        | _ => none) = some d := e
      cases q : vw S x with
      | tup xs =>
        rw [q] at e' r2
        cases e'
        obtain ⟨p, ws, rfl, h1, h2, h3⟩ := r2
        exact ⟨p, ws, rfl, .inr ⟨SqT.of h1, val_ok g h ⟨p, ws, rfl, h1, h2, h3⟩⟩⟩
      | lst xs =>
        rw [q] at e' r2
        cases e'
        obtain ⟨p, ws, rfl, h1, h2, h3⟩ := r2
        exact ⟨p, ws, rfl, .inl ⟨h1, fun l n => new_tup g h3 h2 h n⟩⟩
      | _ => rw [q] at e'; cases e'
  | list =>
    match ds, e with
    | [x], e =>
      obtain ⟨v, rfl, r1⟩ := r.one'
      have r2 := vw_rel g r1
      have e' : (match vw S x with
        | .tup xs => some (D.lst xs)
        | .lst xs => some (.lst xs)
        | _ => none) = some d := e
      cases q : vw S x with
      | tup xs =>
        rw [q] at e' r2
        cases e'
        obtain ⟨p, ws, rfl, h1, h2, h3⟩ := r2
        exact ⟨p, ws, rfl, .inr (SqT.of h1), fun l n => new_lst g h3 h2 h n⟩
      | lst xs =>
        rw [q] at e' r2
        cases e'
        obtain ⟨p, ws, rfl, h1, h2, h3⟩ := r2
        exact ⟨p, ws, rfl, .inl h1, fun l n => new_lst g h3 h2 h n⟩
      | _ => rw [q] at e'; cases e'
  | int =>
    match ds, e with
    | [.int i], e =>
      obtain ⟨v, rfl, r1⟩ := r.one'
      cases e
      exact .inl ⟨i, by rw [show v = V.int i from r1], val_ok g h rfl⟩
    | [.bl i], e =>
      obtain ⟨v, rfl, r1⟩ := r.one'
      cases e
      exact .inr ⟨i, by rw [show v = V.bl i from r1], val_ok g h rfl⟩
end LC

end
section
set_option maxHeartbeats 1000000
/-! LC8: argument lists, displays, indices, slices, calls of built-ins, tests, and, or, not, chains. -/
namespace LC
open PySem PySem.Spec PyProof.Rows L2
section
variable {X : Cx} {K : PySem.W.Frag} {mg : Str → Option Value} {W : WX} {pos p p2 : Pos} {a b c e : Expr} {es rest : List Expr} {ea eb ec ed : Env → M D} {el : Env → M (List D)}

/-! ### argument lists -/
def isStar : Expr → Bool
  | .Starred .. => true
  | _ => false
theorem star_of {env : PySem.Env} (h : isStar e = false) : starEach (e :: es) env = (false, eval e env) :: starEach es env := by
  cases e <;> first | rfl | cases h
theorem star_any {env : PySem.Env} : ∀ {es : List Expr}, (∀ e ∈ es, isStar e = false) → (backTo pos (starEach es env)).any (·.1) = false
  | [], _ => by simp [starEach, backTo]
  | e :: es, h => by
    have h1 := star_any (env := env) (es := es) fun x hx => h x (List.mem_cons_of_mem _ hx)
    rw [star_of (h e List.mem_cons_self)]
    have e1 : ∀ l : List (Bool × Sem Value), (backTo pos l).any (·.1) = l.any (·.1) := fun l => by
      unfold backTo
      rw [List.any_map]
      rfl
    rw [e1] at h1 ⊢
    show (false || (starEach es env).any (·.1)) = false
    rw [h1]
    rfl
def argsNil : Env → M (List D) := fun _ => M.pure []
def argsCons (ea : Env → M D) (el : Env → M (List D)) : Env → M (List D) := fun ρ => M.bind (ea ρ) fun x => M.bind (el ρ) fun xs => M.pure (x :: xs)
theorem sA_nil : PA X [] (TAv K mg W argsNil) := pa_nil.less fun σ H Q h => by
  obtain ⟨A, ρ, S, rfl, rfl, rfl, g, _, h⟩ := h
  exact h [] A (Ext.refl A) g rfl
theorem sA_cons (hs : isStar e = false) (ha : PE X e (TEv K mg W ea)) (hr : PA X es (TAv K mg W el)) : PA X (e :: es) (TAv K mg W (argsCons ea el)) :=
  (pa_cons ha hr (star_of hs)).less fun σ H Q h => by
    obtain ⟨A, ρ, S, eK, em, eH, g, r1, h⟩ := h
    refine ⟨A, ρ, S, eK, em, eH, g, r1, Rdg.bind h fun x S1 v B _ x1 g1 q1 h1 => ?_⟩
    refine ⟨B, ρ, S1, x1.K.trans eK, x1.mg.trans em, rfl, g1, r1.step (x1.step g), Rdg.bind h1 fun xs S2 vs C _ x2 g2 q2 h2 => ?_⟩
    exact h2 (v :: vs) C (Ext.refl C) g2 (.cons (Rel.step (x2.step g1) _ _ q1) q2)
/-- what a number of arguments comes to -/
def LenIs (el : Env → M (List D)) (n : Nat) : Prop := ∀ ρ S ds S', el ρ S = .ok ds S' → ds.length = n
theorem lenIs_nil : LenIs argsNil 0 := fun ρ S ds S' h => by
  cases h
  rfl
theorem lenIs_cons {n : Nat} (h : LenIs el n) : LenIs (argsCons ea el) (n + 1) := fun ρ S ds S' q => by
  unfold argsCons at q
  simp only [M.bind_ap] at q
  cases e1 : ea ρ S with
  | ok x S1 =>
    rw [e1] at q
    simp only [R.bind_ok, M.bind_ap] at q
    cases e2 : el ρ S1 with
    | ok xs S2 =>
      rw [e2] at q
      simp only [R.bind_ok, M.pure_ap] at q
      cases q
      rw [List.length_cons, h _ _ _ _ e2]
    | exc x S1 => rw [e2] at q; cases q
    | bad => rw [e2] at q; cases q
  | exc x S1 => rw [e1] at q; cases q
  | bad => rw [e1] at q; cases q

/-! ### displays -/
def disp (mk : List D → D) (el : Env → M (List D)) : Env → M D := fun ρ => M.bind (el ρ) fun ds => M.pure (mk ds)
theorem sE_tup {k n : Nat} (hl : LenIs el n) (hn : n ≤ 1000) (h : PA X es (TAv K mg W el)) : PE X (.Tuple es k pos) (TEv K mg W (disp .tup el)) :=
  (pe_tup h).less fun σ H Q h => by
    obtain ⟨A, ρ, S, eK, em, eH, g, r1, h⟩ := h
    refine ⟨A, ρ, S, eK, em, eH, g, r1, Rdg.bind h fun xs S1 vs B eq x1 g1 q1 h1 => ?_⟩
    have e1 := hl _ _ _ _ eq
    have hz : xs.length ≤ sizeLine := by rw [e1, sizeLine_eq]; omega
    exact ⟨by rw [q1.len]; exact hz, fun p n => new_tup g1 q1 hz h1 n⟩
theorem sE_lst {n : Nat} (hl : LenIs el n) (hn : n ≤ 1000) (h : PA X es (TAv K mg W el)) : PE X (.List es pos) (TEv K mg W (disp .lst el)) :=
  (pe_lst h).less fun σ H Q h => by
    obtain ⟨A, ρ, S, eK, em, eH, g, r1, h⟩ := h
    refine ⟨A, ρ, S, eK, em, eH, g, r1, Rdg.bind h fun xs S1 vs B eq x1 g1 q1 h1 => ?_⟩
    have e1 := hl _ _ _ _ eq
    have hz : xs.length ≤ sizeLine := by rw [e1, sizeLine_eq]; omega
    exact ⟨by rw [q1.len]; exact hz, fun p n => new_lst g1 q1 hz h1 n⟩

/-! ### a[i] -/
def rIxS2 (K : PySem.W.Frag) : R2 := fun x y H Q => rIxL K x y H Q ∨ rIxT K x y H Q
theorem atI_rel {A : At} {ds : List D} {vs : List V} {i : Int} {d : D} (r : RelL A ds vs) (h : atI ds i = some d) : ∃ v, atI vs i = some v ∧ Rel A d v := by
  unfold atI at h ⊢
  rw [r.len]
  cases e : ixN ds.length i with
  | none => rw [e] at h; cases h
  | some j =>
    rw [e] at h
    exact r.get h
theorem snd_idx : Snd2 K idxD (rIxS2 K) := by
  intro A S x y d v w Q W eK g rx ry e h
  subst eK
  cases x with
  | tup xs =>
    cases y with
    | int i =>
      obtain ⟨p, vs, rfl, h1, h2, h3⟩ := rx
      obtain ⟨z, e1, r1⟩ := atI_rel h3 e
      exact .inr ⟨p, vs, i, z, rfl, ry, SqT.of h1, e1, val_ok g h r1⟩
    | _ => cases e
  | lst xs =>
    cases y with
    | int i =>
      obtain ⟨p, vs, rfl, h1, h2, h3⟩ := rx
      obtain ⟨z, e1, r1⟩ := atI_rel h3 e
      exact .inl ⟨p, vs, i, z, rfl, ry, h1, e1, val_ok g h r1⟩
    | _ => cases e
  | _ => cases y <;> cases e
def notSl : Expr → Bool
  | .Slice .. => false
  | _ => true
theorem plainIx_of (h : notSl b = true) : PlainIx b := fun o i => by cases b <;> first | rfl | cases h
theorem sE_idx (hs : notSl b = true) (ha : PE X a (TEv K mg W ea)) (hb : PE X b (TEv K mg W eb)) (eK : X.K = K) : PE X (.Subscript a b pos) (TEv K mg W (op2 idxD ea eb)) := by
  subst eK
  exact (pe_ix (ix_list.or ix_tup) ha hb (plainIx_of hs)).less fun σ H Q h => rd_op snd_idx h

/-! ### a[lo:hi] -/
def optI (eo : Option (Env → M D)) : Env → M (Option Int) := fun ρ => match eo with
  | none => M.pure none
  | some e => M.bind (e ρ) fun d => match d with
    | .int i => M.pure (some i)
    | _ => M.bad
def sliceD (lo hi : Option Int) : D → Option D
  | .tup xs => some (.tup (cutD xs lo hi))
  | .lst xs => some (.lst (cutD xs lo hi))
  | _ => none
def sl2 (ea : Env → M D) (elo ehi : Option (Env → M D)) : Env → M D := fun ρ => M.bind (ea ρ) fun x => M.bind (optI elo ρ) fun lo => M.bind (optI ehi ρ) fun hi => fun S => M.opt (sliceD lo hi (vw S x)) S
abbrev TOv (K : PySem.W.Frag) (mg : Str → Option Value) (W : WX) (ev : Env → M (Option Int)) : TO := fun σ H Q => Rdg (fun _ (a b : Option Int) => b = a) K mg W ev σ H Q
theorem sO_none : PO X none (TOv K mg W (optI none)) := ⟨fun pins s σ H Q I h => po_none.run pins s σ H Q I (by
  obtain ⟨A, ρ, S, rfl, rfl, rfl, g, _, h⟩ := h
  exact h none A (Ext.refl A) g rfl)⟩
theorem sO_some (ha : PE X a (TEv K mg W ea)) : PO X (some a) (TOv K mg W (optI (some ea))) := ⟨fun pins s σ H Q I h => (po_some ha).run pins s σ H Q I (by
  obtain ⟨A, ρ, S, eK, em, eH, g, r1, h⟩ := h
  refine ⟨A, ρ, S, eK, em, eH, g, r1, Rdg.bind h fun x S1 v B eq x1 g1 q1 h1 => ?_⟩
  cases x with
  | int i => exact ⟨i, q1, h1 (some i) B (Ext.refl B) g1 rfl⟩
  | _ => exact h1.elim)⟩
def rSlS (K : PySem.W.Frag) : V → Option Int → Option Int → Hp → VK → Prop := fun x lo hi H Q => rSlL K x lo hi H Q ∨ rSlA K x lo hi H Q
theorem cut_rel {A : At} {ds : List D} {vs : List V} (r : RelL A ds vs) (lo hi : Option Int) : RelL A (cutD ds lo hi) (cutV vs lo hi) := by
  unfold cutD cutV
  rw [r.len]
  exact (r.drop _).take _
theorem cutD_len (xs : List D) (lo hi : Option Int) : (cutD xs lo hi).length ≤ xs.length := by
  unfold cutD
  rw [List.length_take, List.length_drop]
  omega
theorem sE_slice {lo hi : Option Expr} {elo ehi : Option (Env → M D)} (eK : X.K = K) (ha : PE X a (TEv K mg W ea)) (hl : PO X lo (TOv K mg W (optI elo))) (hh : PO X hi (TOv K mg W (optI ehi))) :
    PE X (.Subscript a (.Slice lo hi none p2) pos) (TEv K mg W (sl2 ea elo ehi)) := by
  subst eK
  refine (pe_slice (sl_list.or sl_tupA) ha hl hh).less fun σ H Q h => ?_
  obtain ⟨A, ρ, S, eK, em, eH, g, r1, h⟩ := h
  refine ⟨A, ρ, S, eK, em, eH, g, r1, Rdg.bind h fun x S1 v B eq x1 g1 q1 h1 => ?_⟩
  refine ⟨B, ρ, S1, x1.K.trans eK, x1.mg.trans em, rfl, g1, r1.step (x1.step g), Rdg.bind h1 fun lo1 S2 lo2 C _ x2 g2 q2 h2 => ?_⟩
  refine ⟨C, ρ, S2, x2.K.trans (x1.K.trans eK), x2.mg.trans (x1.mg.trans em), rfl, g2, (r1.step (x1.step g)).step (x2.step g1), Rdg.bind h2 fun hi1 S3 hi2 G _ x3 g3 q3 h3 => ?_⟩
  have eKG : G.K = X.K := x3.K.trans (x2.K.trans (x1.K.trans eK))
  have r4 := vw_rel g3 (Rel.step ((x2.trans x3).step g1) _ _ q1)
  rw [q2, q3]
  have h3 : Post Rel G (M.opt (sliceD lo1 hi1 (vw S3 x)) S3) Q (fun c d H' => W c d σ H') := h3
  cases q : vw S3 x with
  | tup xs =>
    rw [q] at h3 r4
    obtain ⟨p, ws, rfl, k1, k2, k3⟩ := r4
    refine .inr ⟨p, ws, rfl, SqT.of k1, fun hw => ?_, fun _ l n => new_tup g3 (cut_rel k3 lo1 hi1) (Nat.le_trans (cutD_len _ _ _) k2) h3 n⟩
    have ec : cutD xs lo1 hi1 = xs := by
      unfold cutD
      rw [← k3.len, hw.1, hw.2]
      simp [k3.len]
    refine val_ok g3 h3 ⟨p, ws, rfl, k1, ?_, ?_⟩
    · rw [ec]; exact k2
    · rw [ec]; exact k3
  | lst xs =>
    rw [q] at h3 r4
    obtain ⟨p, ws, rfl, k1, k2, k3⟩ := r4
    refine .inl ⟨p, ws, rfl, by rw [← eKG]; exact k1, fun l n => new_lst g3 (cut_rel k3 lo1 hi1) (Nat.le_trans (cutD_len _ _ _) k2) h3 n⟩
  | _ => rw [q] at h3; exact h3.elim

/-! ### calls of built-ins -/
def callA (f : Store → List D → Option D) (el : Env → M (List D)) : Env → M D := fun ρ => M.bind (el ρ) fun ds => fun S => M.opt (f S ds) S
theorem rd_callA {f : Store → List D → Option D} {r : List V → Hp → VK → Prop} (s : SndA K f r) {σ : L2.St} {H : Hp} {Q : VK} (h : TEv K mg W (callA f el) σ H Q) : tCB r (TAv K mg W el) σ H Q := by
  obtain ⟨A, ρ, S, eK, em, eH, g, r1, h⟩ := h
  refine ⟨A, ρ, S, eK, em, eH, g, r1, Rdg.bind h fun xs S1 vs B eq x1 g1 q1 h1 => ?_⟩
  have h1 : Post Rel B (M.opt (f S1 xs) S1) Q (fun c d H' => W c d σ H') := h1
  cases q : f S1 xs with
  | none => rw [q] at h1; exact h1.elim
  | some d =>
    rw [q] at h1
    exact s B S1 xs d vs Q _ (x1.K.trans eK) g1 q1 q h1
theorem sE_callV {x : Str} {f : Store → List D → Option D} {r : List V → Hp → VK → Prop} {v : Value} (hv0 : (∃ id, v = .builtin id) ∨ ∃ T, v = .type T) (hc : CallR X v r) (s : SndA K f r) (hg : Gl X x) (hm : X.mg x = none) (hv : bootBuiltins x = some v) (hn : x ≠ "__name__") (hdb : (x == ("__debug__" : Str)) = false)
    (hst : ∀ z ∈ e :: es, isStar z = false) (ha : PA X (e :: es) (TAv K mg W el)) : PE X (.Call (.Name x p) (e :: es) [] pos) (TEv K mg W (callA f el)) := by
  rcases hv0 with ⟨id, rfl⟩ | ⟨T, rfl⟩
  · exact (pe_callB hc hg hm hv ha hn hdb (star_of (hst e List.mem_cons_self)) (star_any fun z hz => hst z (List.mem_cons_of_mem _ hz))).less fun σ H Q h => rd_callA s h
  · exact (pe_callTy hc hg hm hv ha hn hdb (star_of (hst e List.mem_cons_self)) (star_any fun z hz => hst z (List.mem_cons_of_mem _ hz))).less fun σ H Q h => rd_callA s h
/-- a built-in type as a value -/
theorem sE_ty {x : Str} {n : String} (hg : Gl X x) (hm : X.mg x = none) (hv : bootBuiltins x = some (.type n)) (hn : x ≠ "__name__") (hd : (x == ("__debug__" : Str)) = false) : PE X (.Name x pos) (TEv K mg W fun _ => M.pure (.ty n)) :=
  (pe_bltn (v := .ty n) hg hm hv rfl hn hd).less fun σ H Q h => by
    obtain ⟨A, ρ, S, rfl, rfl, rfl, g, _, h⟩ := h
    exact val_ok g h rfl

/-! ### -a, not a -/
def un1 (f : D → Option D) (ea : Env → M D) : Env → M D := fun ρ => M.bind (ea ρ) fun x => M.opt (f x)
def negD : D → Option D
  | .int i => some (.int (-i))
  | _ => none
def notD : D → Option D
  | .bl b => some (.bl (!b))
  | _ => none
theorem sE_neg (ha : PE X a (TEv K mg W ea)) : PE X (.UnaryOp .USub a pos) (TEv K mg W (un1 negD ea)) :=
  (pe_un un_neg ha).less fun σ H Q h => by
    obtain ⟨A, ρ, S, eK, em, eH, g, r1, h⟩ := h
    refine ⟨A, ρ, S, eK, em, eH, g, r1, Rdg.bind h fun x S1 v B eq x1 g1 q1 h1 => ?_⟩
    cases x with
    | int i => exact ⟨i, q1, val_ok g1 h1 rfl⟩
    | _ => exact h1.elim
theorem sE_not (ha : PE X a (TEv K mg W ea)) : PE X (.UnaryOp .Not a pos) (TEv K mg W (un1 notD ea)) :=
  (pe_not ha).less fun σ H Q h => by
    obtain ⟨A, ρ, S, eK, em, eH, g, r1, h⟩ := h
    refine ⟨A, ρ, S, eK, em, eH, g, r1, Rdg.bind h fun x S1 v B eq x1 g1 q1 h1 => ?_⟩
    cases x with
    | bl i => exact ⟨i, q1, val_ok g1 h1 rfl⟩
    | _ => exact h1.elim
theorem sT_not (ha : PT X a (TTv K mg W (asBl ea))) : PT X (.UnaryOp .Not a pos) (TTv K mg W (asBl (un1 notD ea))) :=
  (pt_not ha).less fun σ H Q h => by
    obtain ⟨A, ρ, S, eK, em, eH, g, r1, h⟩ := h
    refine ⟨A, ρ, S, eK, em, eH, g, r1, ?_⟩
    have e1 : asBl (un1 notD ea) ρ S = ((asBl ea ρ) S).bind fun b => M.pure (!b) := by
      unfold asBl un1
      simp only [M.bind_ap]
      cases ea ρ S with
      | ok x S1 => cases x <;> rfl
      | exc x S1 => rfl
      | bad => rfl
    rw [e1] at h
    exact Rdg.bind h fun x S1 v B eq x1 g1 q1 h1 => h1 _ B (Ext.refl B) g1 (by rw [q1])

/-! ### and, or -/
def andM (ea eb : Env → M D) : Env → M D := fun ρ => M.bind (ea ρ) fun x => match x with
  | .bl true => eb ρ
  | .bl false => M.pure (.bl false)
  | _ => M.bad
def orM (ea eb : Env → M D) : Env → M D := fun ρ => M.bind (ea ρ) fun x => match x with
  | .bl false => eb ρ
  | .bl true => M.pure (.bl true)
  | _ => M.bad
theorem sE_and (ha : PE X a (TEv K mg W ea)) (hb : PE X (.BoolOp .And (b :: rest) pos) (TEv K mg W eb)) : PE X (.BoolOp .And (a :: b :: rest) pos) (TEv K mg W (andM ea eb)) :=
  (pe_and ha hb).less fun σ H Q h => by
    obtain ⟨A, ρ, S, eK, em, eH, g, r1, h⟩ := h
    refine ⟨A, ρ, S, eK, em, eH, g, r1, Rdg.bind h fun x S1 v B eq x1 g1 q1 h1 => ?_⟩
    cases x with
    | bl i =>
      refine ⟨i, q1, ?_⟩
      cases i with
      | true => exact ⟨B, ρ, S1, x1.K.trans eK, x1.mg.trans em, rfl, g1, r1.step (x1.step g), h1⟩
      | false => exact val_ok g1 h1 rfl
    | _ => exact h1.elim
theorem sE_or (ha : PE X a (TEv K mg W ea)) (hb : PE X (.BoolOp .Or (b :: rest) pos) (TEv K mg W eb)) : PE X (.BoolOp .Or (a :: b :: rest) pos) (TEv K mg W (orM ea eb)) :=
  (pe_or ha hb).less fun σ H Q h => by
    obtain ⟨A, ρ, S, eK, em, eH, g, r1, h⟩ := h
    refine ⟨A, ρ, S, eK, em, eH, g, r1, Rdg.bind h fun x S1 v B eq x1 g1 q1 h1 => ?_⟩
    cases x with
    | bl i =>
      refine ⟨i, q1, ?_⟩
      cases i with
      | false => exact ⟨B, ρ, S1, x1.K.trans eK, x1.mg.trans em, rfl, g1, r1.step (x1.step g), h1⟩
      | true => exact val_ok g1 h1 rfl
    | _ => exact h1.elim
theorem sE_one {op : BoolOp} (ha : PE X a (TEv K mg W ea)) : PE X (.BoolOp op [a] pos) (TEv K mg W ea) := pe_one ha
theorem sW_one {op : BoolOp} (ha : PT X a (TTv K mg W (asBl ea))) : PW X (.BoolOp op [a] pos) (TTv K mg W (asBl ea)) := by
  cases op
  · exact pw_and1 ha
  · exact pw_or1 ha
theorem sW_and (ha : PT X a (TTv K mg W (asBl ea))) (hb : PW X (.BoolOp .And (b :: rest) pos) (TTv K mg W (asBl eb))) : PW X (.BoolOp .And (a :: b :: rest) pos) (TTv K mg W (asBl (andM ea eb))) :=
  (pw_and ha hb).less fun σ H Q h => by
    obtain ⟨A, ρ, S, eK, em, eH, g, r1, h⟩ := h
    refine ⟨A, ρ, S, eK, em, eH, g, r1, ?_⟩
    have e1 : asBl (andM ea eb) ρ S = ((asBl ea ρ) S).bind fun t => if t = true then asBl eb ρ else M.pure false := by
      unfold asBl andM
      simp only [M.bind_ap]
      cases ea ρ S with
      | ok x S1 =>
        cases x with
        | bl t => cases t <;> rfl
        | _ => rfl
      | exc x S1 => rfl
      | bad => rfl
    rw [e1] at h
    refine Rdg.bind h fun x S1 v B eq x1 g1 q1 h1 => ?_
    subst q1
    cases v with
    | true => exact ⟨B, ρ, S1, x1.K.trans eK, x1.mg.trans em, rfl, g1, r1.step (x1.step g), h1⟩
    | false => exact h1 _ B (Ext.refl B) g1 rfl
theorem sW_or (ha : PT X a (TTv K mg W (asBl ea))) (hb : PW X (.BoolOp .Or (b :: rest) pos) (TTv K mg W (asBl eb))) : PW X (.BoolOp .Or (a :: b :: rest) pos) (TTv K mg W (asBl (orM ea eb))) :=
  (pw_or ha hb).less fun σ H Q h => by
    obtain ⟨A, ρ, S, eK, em, eH, g, r1, h⟩ := h
    refine ⟨A, ρ, S, eK, em, eH, g, r1, ?_⟩
    have e1 : asBl (orM ea eb) ρ S = ((asBl ea ρ) S).bind fun t => if t = true then M.pure true else asBl eb ρ := by
      unfold asBl orM
      simp only [M.bind_ap]
      cases ea ρ S with
      | ok x S1 =>
        cases x with
        | bl t => cases t <;> rfl
        | _ => rfl
      | exc x S1 => rfl
      | bad => rfl
    rw [e1] at h
    refine Rdg.bind h fun x S1 v B eq x1 g1 q1 h1 => ?_
    subst q1
    cases v with
    | false => exact ⟨B, ρ, S1, x1.K.trans eK, x1.mg.trans em, rfl, g1, r1.step (x1.step g), h1⟩
    | true => exact h1 _ B (Ext.refl B) g1 rfl

/-! ### a if c else b -/
def iteM (ec ea eb : Env → M D) : Env → M D := fun ρ => M.bind (ec ρ) fun x => match x with
  | .bl true => ea ρ
  | .bl false => eb ρ
  | _ => M.bad
theorem iteM_eq (ec ea eb : Env → M D) (ρ : Env) (S : Store) : iteM ec ea eb ρ S = ((asBl ec ρ) S).bind fun t => if t = true then ea ρ else eb ρ := by
  unfold asBl iteM
  simp only [M.bind_ap]
  cases ec ρ S with
  | ok x S1 =>
    cases x with
    | bl t => cases t <;> rfl
    | _ => rfl
  | exc x S1 => rfl
  | bad => rfl
theorem sE_ite (hc : PT X c (TTv K mg W (asBl ec))) (ha : PE X a (TEv K mg W ea)) (hb : PE X b (TEv K mg W eb)) : PE X (.IfExp c a b pos) (TEv K mg W (iteM ec ea eb)) :=
  (pe_ifExp hc ha hb).less fun σ H Q h => by
    obtain ⟨A, ρ, S, eK, em, eH, g, r1, h⟩ := h
    refine ⟨A, ρ, S, eK, em, eH, g, r1, ?_⟩
    rw [iteM_eq] at h
    refine Rdg.bind h fun x S1 v B eq x1 g1 q1 h1 => ?_
    subst q1
    cases v with
    | true => exact ⟨B, ρ, S1, x1.K.trans eK, x1.mg.trans em, rfl, g1, r1.step (x1.step g), h1⟩
    | false => exact ⟨B, ρ, S1, x1.K.trans eK, x1.mg.trans em, rfl, g1, r1.step (x1.step g), h1⟩

/-! ### a < b < c -/
def chnM (f f' : D → D → Option D) (ea eb ec : Env → M D) : Env → M D := fun ρ => M.bind (ea ρ) fun x => M.bind (eb ρ) fun y => M.bind (fun S => M.opt (f (vw S x) (vw S y)) S) fun t => match t with
  | .bl true => M.bind (ec ρ) fun z => fun S => M.opt (f' (vw S y) (vw S z)) S
  | .bl false => M.pure (.bl false)
  | _ => M.bad
theorem rd_chn {f f' : D → D → Option D} {r r' : R2} (s : Snd2 K f r) (s' : Snd2 K f' r') {σ : L2.St} {H : Hp} {Q : VK} (h : TEv K mg W (chnM f f' ea eb ec) σ H Q) : tChain r r' (TEv K mg W ea) (TEv K mg W eb) (TEv K mg W ec) σ H Q := by
  obtain ⟨A, ρ, S, eK, em, eH, g, r1, h⟩ := h
  refine ⟨A, ρ, S, eK, em, eH, g, r1, Rdg.bind h fun x S1 v B _ x1 g1 q1 h1 => ?_⟩
  refine ⟨B, ρ, S1, x1.K.trans eK, x1.mg.trans em, rfl, g1, r1.step (x1.step g), Rdg.bind h1 fun y S2 w C _ x2 g2 q2 h2 => ?_⟩
  have eKC : C.K = K := x2.K.trans (x1.K.trans eK)
  have q1' := Rel.step (x2.step g1) _ _ q1
  simp only [M.bind_ap] at h2
  cases e : f (vw S2 x) (vw S2 y) with
  | none => rw [e] at h2; exact h2.elim
  | some d =>
    rw [e] at h2
    simp only [M.opt_some, R.bind_ok] at h2
    refine s C S2 _ _ d v w _ (fun c d H' => W c d σ H') eKC g2 (vw_rel g2 q1') (vw_rel g2 q2) e (fun u G x3 g3 q3 => ?_)
    have h2 := Post.ext x3 h2
    cases d with
    | bl t =>
      refine ⟨t, q3, ?_⟩
      cases t with
      | true =>
        have eKG : G.K = K := x3.K.trans eKC
        refine ⟨G, ρ, S2, eKG, x3.mg.trans (x2.mg.trans (x1.mg.trans em)), rfl, g3, ((r1.step (x1.step g)).step (x2.step g1)).step (x3.step g2), Rdg.bind h2 fun z S4 u' J _ x4 g4 q4 h4 => ?_⟩
        have h4 : Post Rel J (M.opt (f' (vw S4 y) (vw S4 z)) S4) Q (fun c d H' => W c d σ H') := h4
        cases e' : f' (vw S4 y) (vw S4 z) with
        | none => rw [e'] at h4; exact h4.elim
        | some d' =>
          rw [e'] at h4
          exact s' J S4 _ _ d' w u' Q _ (x4.K.trans eKG) g4 (vw_rel g4 (Rel.step ((x3.trans x4).step g2) _ _ q2)) (vw_rel g4 q4) e' h4
      | false => exact val_ok g3 h2 rfl
    | _ => exact h2.elim
theorem sE_chn {op op' : CmpOp} {f f' : D → D → Option D} {r r' : R2} (ho : OpR X (compareOp op) r) (ho' : OpR X (compareOp op') r') (s : Snd2 K f r) (s' : Snd2 K f' r') (hm : lastMarks [op, op'] [b, c] = false)
    (ha : PE X a (TEv K mg W ea)) (hb : PE X b (TEv K mg W eb)) (hc : PE X c (TEv K mg W ec)) : PE X (.Compare a [op, op'] [b, c] pos) (TEv K mg W (chnM f f' ea eb ec)) :=
  (pe_chain ho ho' ha hb hc hm).less fun σ H Q h => rd_chn s s' h
theorem sT_chn {op op' : CmpOp} {f f' : D → D → Option D} {r r' : R2} (ho : OpR X (compareOp op) r) (ho' : OpR X (compareOp op') r') (s : Snd2 K f r) (s' : Snd2 K f' r') (hm : lastMarks [op, op'] [b, c] = false)
    (ha : PE X a (TEv K mg W ea)) (hb : PE X b (TEv K mg W eb)) (hc : PE X c (TEv K mg W ec)) : PT X (.Compare a [op, op'] [b, c] pos) (TTv K mg W (asBl (chnM f f' ea eb ec))) :=
  (pt_chain ho ho' ha hb hc hm).less fun σ H Q h => rd_chn s s' (rd_bl h)
end
end LC

end
section
set_option maxHeartbeats 1000000
/-! LC9: targets, what is walked, comprehensions. -/
namespace LC
open PySem PySem.Spec PyProof.Rows L2

/-! ### targets -/
inductive LT where
  | nm (i : Nat)
  | tp (is : List Nat)
def LT.slots : LT → List Nat
  | .nm i => [i]
  | .tp is => is
def setAll : List Nat → List D → Env → Option Env
  | [], [], ρ => some ρ
  | i :: is, d :: ds, ρ => setAll is ds (ρ.set i (some d))
  | _, _, _ => none
def asgT : LT → D → Env → Option Env
  | .nm i, d, ρ => some (ρ.set i (some d))
  | .tp is, .tup ds, ρ => setAll is ds ρ
  | .tp _, _, _ => none
/-- one frame's slots behind another's, but for some -/
def Alike (vs : List Nat) (σ σ' : L2.St) : Prop := ∀ ws : List Nat, (∀ i ∈ vs, i ∈ ws) → wipe σ' ws = wipe σ ws
theorem wipe_set {σ : L2.St} {i : Nat} {x : Option V} : ∀ {ws : List Nat}, i ∈ ws → wipe (σ.set i x) ws = wipe σ ws
  | [], h => by cases h
  | w :: ws, h => by
    have comm : ∀ (τ : L2.St) (us : List Nat), wipe (τ.set i x) us = (wipe τ us).set i x ∨ wipe (τ.set i x) us = wipe τ us := by
      intro τ us
      induction us with
      | nil => exact .inl rfl
      | cons u us ih =>
        show (wipe (τ.set i x) us).set u none = ((wipe τ us).set u none).set i x ∨ (wipe (τ.set i x) us).set u none = (wipe τ us).set u none
        rcases ih with e | e
        · rw [e]
          by_cases hu : i = u
          · subst hu
            exact .inr (by rw [List.set_set])
          · exact .inl (by rw [List.set_comm _ _ hu])
        · rw [e]
          exact .inr rfl
    show (wipe (σ.set i x) ws).set w none = (wipe σ ws).set w none
    by_cases hw : i = w
    · subst hw
      rcases comm σ ws with e | e
      · rw [e, List.set_set]
      · rw [e]
    · rcases List.mem_cons.mp h with rfl | h
      · exact absurd rfl hw
      · rw [wipe_set h]
abbrev TGv (K : PySem.W.Frag) (mg : Str → Option Value) (tg : LT) : TG := fun v σ H Q =>
  ∃ (A : At) (ρ ρ' : Env) (S : Store) (d : D), A.K = K ∧ A.mg = mg ∧ A.H = H ∧ Gd A S ∧ EnvR A ρ σ ∧ Rel A d v ∧ asgT tg d ρ = some ρ' ∧ ∀ σ', EnvR A ρ' σ' → Alike tg.slots σ σ' → Q σ' H
section
variable {X : Cx} {N : List Str} {sc : Scope} {K : PySem.W.Frag} {mg : Str → Option Value} {W : WX} {pos : Pos}
theorem sG_nm {i : Nat} {x : Str} (hN : X.N.Nodup) (hi : X.N[i]? = some x) (hx : Loc X.env.scope x) (hf : X.fn x = true ∨ X.env.scope.names.lookup x = some .local) : PG X (.Name x pos) (TGv K mg (.nm i)) :=
  ⟨fun pins s σ H v u Q I r h => (pg_name hN hi hx hf).run pins s σ H v u Q I r (by
    obtain ⟨A, ρ, ρ', S, d, eK, em, rfl, g, r1, rd, ha, q⟩ := h
    cases ha
    exact q _ (r1.set rd) fun ws hw => wipe_set (hw i (by simp [LT.slots])))⟩
/-- several names -/
def gNms : List Nat → TGs
  | [] => gNil
  | i :: is => gCons (gName i) (gNms is)
theorem gNms_ok {A : At} : ∀ {is : List Nat} {ds : List D} {vs : List V} {ρ ρ' : Env} {σ : L2.St} {H : Hp} {Q : L2.St → Hp → Prop}, EnvR A ρ σ → RelL A ds vs → setAll is ds ρ = some ρ' → (∀ σ', EnvR A ρ' σ' → Alike is σ σ' → Q σ' H) → gNms is vs σ H Q
  | [], [], vs, ρ, ρ', σ, H, Q, r, rl, e, q => by
    cases e
    rw [show vs = [] from rl]
    exact ⟨rfl, q σ r fun _ _ => rfl⟩
  | i :: is, d :: ds, vs, ρ, ρ', σ, H, Q, r, rl, e, q => by
    obtain ⟨v, vr, rfl, k1, k2⟩ := rl
    exact ⟨v, vr, rfl, gNms_ok (r.set k1) k2 e fun σ' r' al => q σ' r' fun ws hw => (al ws fun j hj => hw j (List.mem_cons_of_mem _ hj)).trans (wipe_set (hw i List.mem_cons_self))⟩
  | [], _ :: _, _, _, _, _, _, _, _, _, e, _ => by cases e
  | _ :: _, [], _, _, _, _, _, _, _, _, e, _ => by cases e
theorem setAll_len : ∀ {is : List Nat} {ds : List D} {ρ ρ' : Env}, setAll is ds ρ = some ρ' → ds.length = is.length
  | [], [], _, _, _ => rfl
  | _ :: is, _ :: ds, _, _, e => by rw [List.length_cons, List.length_cons, setAll_len (is := is) (ds := ds) e]
  | [], _ :: _, _, _, e => by cases e
  | _ :: _, [], _, _, e => by cases e
/-- names, as targets: each with its place -/
def namesOk (N : List Str) (sc : Scope) (fn : Str → Bool) : List Expr → List Nat → Bool
  | [], [] => true
  | .Name x _ :: es, i :: is => decide (N[i]? = some x) && ((sc.names.lookup x == some .local || (sc.names.lookup x == some .cell && fn x)) && namesOk N sc fn es is)
  | _, _ => false
theorem name_ok {sc : Scope} {x : Str} {fn : Str → Bool} (h : (sc.names.lookup x == some .local || (sc.names.lookup x == some .cell && fn x)) = true) : Loc sc x ∧ (fn x = true ∨ sc.names.lookup x = some .local) := by
  rcases Bool.or_eq_true_iff.mp h with h | h
  · have h' := eq_of_beq h
    exact ⟨.inl h', .inr h'⟩
  · obtain ⟨h1, h2⟩ := Bool.and_eq_true_iff.mp h
    exact ⟨.inr (eq_of_beq h1), .inl h2⟩
theorem assign_cons {env : PySem.Env} {x : Str} {p : Pos} {es : List Expr} : (assignEach (.Name x p :: es) env).map (·.2) = assign (.Name x p) env :: (assignEach es env).map (·.2) := rfl
theorem pgs_nms (hN : X.N.Nodup) {fn : Str → Bool} (hf : ∀ x, fn x = true → X.fn x = true) : ∀ {es : List Expr} {is : List Nat}, namesOk X.N X.env.scope fn es is = true → PGs X es (gNms is)
  | [], [], _ => pgs_nil
  | .Name x p :: es, i :: is, h => by
    obtain ⟨h1, h2⟩ := Bool.and_eq_true_iff.mp (show (decide (X.N[i]? = some x) && ((X.env.scope.names.lookup x == some .local || (X.env.scope.names.lookup x == some .cell && fn x)) && namesOk X.N X.env.scope fn es is)) = true from h)
    obtain ⟨h2, h3⟩ := Bool.and_eq_true_iff.mp h2
    obtain ⟨a, b⟩ := name_ok h2
    exact pgs_cons (pg_name hN (of_decide_eq_true h1) a (b.elim (fun z => .inl (hf x z)) .inr)) (pgs_nms hN hf h3)
  | [], _ :: _, h => by cases h
  | .Name _ _ :: _, [], h => by cases h
  | .BoolOp .. :: _, [], h => by cases h
  | .BoolOp .. :: _, _ :: _, h => by cases h
  | .NamedExpr .. :: _, [], h => by cases h
  | .NamedExpr .. :: _, _ :: _, h => by cases h
  | .BinOp .. :: _, [], h => by cases h
  | .BinOp .. :: _, _ :: _, h => by cases h
  | .UnaryOp .. :: _, [], h => by cases h
  | .UnaryOp .. :: _, _ :: _, h => by cases h
  | .Lambda .. :: _, [], h => by cases h
  | .Lambda .. :: _, _ :: _, h => by cases h
  | .IfExp .. :: _, [], h => by cases h
  | .IfExp .. :: _, _ :: _, h => by cases h
  | .Dict .. :: _, [], h => by cases h
  | .Dict .. :: _, _ :: _, h => by cases h
  | .Set .. :: _, [], h => by cases h
  | .Set .. :: _, _ :: _, h => by cases h
  | .ListComp .. :: _, [], h => by cases h
  | .ListComp .. :: _, _ :: _, h => by cases h
  | .SetComp .. :: _, [], h => by cases h
  | .SetComp .. :: _, _ :: _, h => by cases h
  | .DictComp .. :: _, [], h => by cases h
  | .DictComp .. :: _, _ :: _, h => by cases h
  | .GeneratorExp .. :: _, [], h => by cases h
  | .GeneratorExp .. :: _, _ :: _, h => by cases h
  | .Await .. :: _, [], h => by cases h
  | .Await .. :: _, _ :: _, h => by cases h
  | .Yield .. :: _, [], h => by cases h
  | .Yield .. :: _, _ :: _, h => by cases h
  | .YieldFrom .. :: _, [], h => by cases h
  | .YieldFrom .. :: _, _ :: _, h => by cases h
  | .Compare .. :: _, [], h => by cases h
  | .Compare .. :: _, _ :: _, h => by cases h
  | .Call .. :: _, [], h => by cases h
  | .Call .. :: _, _ :: _, h => by cases h
  | .FormattedValue .. :: _, [], h => by cases h
  | .FormattedValue .. :: _, _ :: _, h => by cases h
  | .JoinedStr .. :: _, [], h => by cases h
  | .JoinedStr .. :: _, _ :: _, h => by cases h
  | .Constant .. :: _, [], h => by cases h
  | .Constant .. :: _, _ :: _, h => by cases h
  | .Attribute .. :: _, [], h => by cases h
  | .Attribute .. :: _, _ :: _, h => by cases h
  | .Subscript .. :: _, [], h => by cases h
  | .Subscript .. :: _, _ :: _, h => by cases h
  | .Starred .. :: _, [], h => by cases h
  | .Starred .. :: _, _ :: _, h => by cases h
  | .List .. :: _, [], h => by cases h
  | .List .. :: _, _ :: _, h => by cases h
  | .Tuple .. :: _, [], h => by cases h
  | .Tuple .. :: _, _ :: _, h => by cases h
  | .Slice .. :: _, [], h => by cases h
  | .Slice .. :: _, _ :: _, h => by cases h
theorem namesOk_len {fn : Str → Bool} {env : PySem.Env} : ∀ {es : List Expr} {is : List Nat}, namesOk N sc fn es is = true → (assignEach es env).length = is.length ∧ (assignEach es env).findIdx? (·.1) = none
  | [], [], _ => ⟨rfl, rfl⟩
  | .Name x p :: es, i :: is, h => by
    obtain ⟨_, h2⟩ := Bool.and_eq_true_iff.mp (show (decide (N[i]? = some x) && ((sc.names.lookup x == some .local || (sc.names.lookup x == some .cell && fn x)) && namesOk N sc fn es is)) = true from h)
    obtain ⟨_, h3⟩ := Bool.and_eq_true_iff.mp h2
    obtain ⟨a, b⟩ := namesOk_len (env := env) h3
    have e : assignEach (.Name x p :: es) env = (false, assign (.Name x p) env) :: assignEach es env := rfl
    rw [e]
    refine ⟨by rw [List.length_cons, List.length_cons, a], ?_⟩
    rw [List.findIdx?_cons, b]
    rfl
  | [], _ :: _, h => by cases h
  | e :: es, [], h => by cases e <;> cases h
  | .BoolOp .. :: _, _ :: _, h => by cases h
  | .NamedExpr .. :: _, _ :: _, h => by cases h
  | .BinOp .. :: _, _ :: _, h => by cases h
  | .UnaryOp .. :: _, _ :: _, h => by cases h
  | .Lambda .. :: _, _ :: _, h => by cases h
  | .IfExp .. :: _, _ :: _, h => by cases h
  | .Dict .. :: _, _ :: _, h => by cases h
  | .Set .. :: _, _ :: _, h => by cases h
  | .ListComp .. :: _, _ :: _, h => by cases h
  | .SetComp .. :: _, _ :: _, h => by cases h
  | .DictComp .. :: _, _ :: _, h => by cases h
  | .GeneratorExp .. :: _, _ :: _, h => by cases h
  | .Await .. :: _, _ :: _, h => by cases h
  | .Yield .. :: _, _ :: _, h => by cases h
  | .YieldFrom .. :: _, _ :: _, h => by cases h
  | .Compare .. :: _, _ :: _, h => by cases h
  | .Call .. :: _, _ :: _, h => by cases h
  | .FormattedValue .. :: _, _ :: _, h => by cases h
  | .JoinedStr .. :: _, _ :: _, h => by cases h
  | .Constant .. :: _, _ :: _, h => by cases h
  | .Attribute .. :: _, _ :: _, h => by cases h
  | .Subscript .. :: _, _ :: _, h => by cases h
  | .Starred .. :: _, _ :: _, h => by cases h
  | .List .. :: _, _ :: _, h => by cases h
  | .Tuple .. :: _, _ :: _, h => by cases h
  | .Slice .. :: _, _ :: _, h => by cases h
theorem sG_tp {es : List Expr} {is : List Nat} {k : Nat} {fn : Str → Bool} (hc : X.calm = true) (hN : X.N.Nodup) (hf : ∀ x, fn x = true → X.fn x = true) (h : namesOk X.N X.env.scope fn es is = true) (eK : X.K = K) : PG X (.Tuple es k pos) (TGv K mg (.tp is)) := by
  subst eK
  obtain ⟨h1, h2⟩ := namesOk_len (env := X.env) h
  exact ⟨fun pins s σ H v u Q I r hq => (pg_tup hc (pgs_nms hN hf h) h1 h2).run pins s σ H v u Q I r (by
    obtain ⟨A, ρ, ρ', S, d, eK, em, rfl, g, r1, rd, ha, q⟩ := hq
    cases d with
    | tup ds =>
      obtain ⟨p, vs, rfl, k1, k2, k3⟩ := rd
      exact ⟨p, vs, rfl, SqT.of k1, by rw [k3.len, setAll_len ha], gNms_ok r1 k3 ha q⟩
    | _ => cases ha)⟩
end
end LC

end
section
set_option maxHeartbeats 1000000
/-! LC10: what is walked; comprehensions. -/
namespace LC
open PySem PySem.Spec PyProof.Rows L2

inductive Src where
  | fix (xs : List D)
  | cel (n : Nat)
  | enm (s : Src)
  | zip (s t : Src)
def srcAt : Src → Store → Nat → Option (Option D)
  | .fix xs, _, i => some xs[i]?
  | .cel n, S, i => match S[n]? with
    | some (.lst ys) => some ys[i]?
    | _ => none
  | .enm s, S, i => match srcAt s S i with
    | some (some d) => some (some (.tup [.int (i : Nat), d]))
    | r => r
  | .zip s t, S, i => match srcAt s S i with
    | some (some d) => match srcAt t S i with
      | some (some e) => some (some (.tup [d, e]))
      | r => r
    | some none => match srcAt t S i with
      | some _ => some none
      | none => none
    | none => none
def srcFuel : Src → Store → Nat
  | .fix xs, _ => xs.length + 1
  | .cel n, S => match S[n]? with
    | some (.lst ys) => ys.length + 1000
    | _ => 0
  | .enm s, S => srcFuel s S
  | .zip s _, S => srcFuel s S
def Walks (A0 : At) (s : Src) (J : It) : Prop := ∀ (A : At) (S : Store), Stp A0 A → Gd A S → ∀ (i : Nat) (r : Option D), srcAt s S i = some r → match r with
  | none => J.stop i A.H
  | some d => i < sizeLine ∧ J.go i A.H ∧ ∀ x H', J.yld i A.H x H' → ∃ B : At, B.H = H' ∧ Ext A B ∧ Gd B S ∧ Rel B d x
abbrev TIv (K : PySem.W.Frag) (mg : Str → Option Value) (W : WX) (ev : Env → M Src) : TI := fun σ H R => Rdg Walks K mg W ev σ H R
/-- where a list or a tuple is walked -/
theorem walks_list {A : At} {p : Addr} {xs : List D} {vs : List V} (h : A.rd p vs) (hz : xs.length ≤ sizeLine) (r : RelL A xs vs) : Walks A (.fix xs) (Itl A.K p) := fun B S st g i r' e => by
  cases (show some xs[i]? = some r' from e)
  have hq : SqL A.K B.H p vs := by rw [← st.K]; exact (st.rd _ _ h).sq
  cases q : xs[i]? with
  | none =>
    have := List.getElem?_eq_none_iff.mp q
    exact ⟨vs, hq, by rw [r.len]; exact this⟩
  | some d =>
    obtain ⟨v, e1, r1⟩ := (RelL.step st _ _ r).get q
    have hi := (List.getElem?_eq_some_iff.mp q).1
    refine ⟨Nat.lt_of_lt_of_le hi hz, ⟨vs, v, hq, e1⟩, fun x H' hy => ?_⟩
    obtain ⟨rfl, hy⟩ := hy
    have ex : x = v := Option.some.inj ((hy vs hq).symm.trans e1)
    exact ⟨B, rfl, Ext.refl B, g, by rw [ex]; exact r1⟩
theorem walks_cell {A : At} {p : Addr} {n : Nat} (h : A.m[n]? = some p) : Walks A (.cel n) (Itl A.K p) := fun B S st g i r' e => by
  have hp := st.pre n p h
  have e' : (match S[n]? with
    | some (.lst ys) => some ys[i]?
    | _ => none) = some r' := e
  cases q : S[n]? with
  | none => rw [q] at e'; cases e'
  | some c =>
    rw [q] at e'
    cases c with
    | lst ys =>
      cases e'
      obtain ⟨vs, e1, hz, r⟩ := g.ok n _ p q hp
      have hq : SqL A.K B.H p vs := SqL.of e1
      cases q2 : ys[i]? with
      | none =>
        have := List.getElem?_eq_none_iff.mp q2
        exact ⟨vs, hq, by rw [r.len]; exact this⟩
      | some d =>
        obtain ⟨v, e2, r1⟩ := r.get q2
        have hi := (List.getElem?_eq_some_iff.mp q2).1
        refine ⟨Nat.lt_of_lt_of_le hi hz, ⟨vs, v, hq, e2⟩, fun x H' hy => ?_⟩
        obtain ⟨rfl, hy⟩ := hy
        have ex : x = v := Option.some.inj ((hy vs hq).symm.trans e2)
        exact ⟨B, rfl, Ext.refl B, g, by rw [ex]; exact r1⟩
    | _ => cases e'
theorem walks_tup {A : At} {p : Addr} {xs : List D} {vs : List V} (h : A.H p = some (.tup vs)) (hz : xs.length ≤ sizeLine) (r : RelL A xs vs) : Walks A (.fix xs) (Itt A.K p) := fun B S st g i r' e => by
  cases (show some xs[i]? = some r' from e)
  have hq : SqT A.K B.H p vs := SqT.of (st.tp _ _ (.inl ⟨_, rfl⟩) h)
  cases q : xs[i]? with
  | none =>
    have := List.getElem?_eq_none_iff.mp q
    exact ⟨vs, hq, by rw [r.len]; exact this⟩
  | some d =>
    obtain ⟨v, e1, r1⟩ := (RelL.step st _ _ r).get q
    have hi := (List.getElem?_eq_some_iff.mp q).1
    refine ⟨Nat.lt_of_lt_of_le hi hz, ⟨vs, v, hq, e1⟩, fun x H' hy => ?_⟩
    obtain ⟨rfl, hy⟩ := hy
    have ex : x = v := Option.some.inj ((hy vs hq).symm.trans e1)
    exact ⟨B, rfl, Ext.refl B, g, by rw [ex]; exact r1⟩
def rangeD (lo : Int) (n : Nat) : List D := (List.range n).map fun i => D.int (lo + (i : Nat))
theorem walks_rng {A : At} {lo : Int} {n : Nat} (hn : n ≤ sizeLine) : Walks A (.fix (rangeD lo n)) (Itr lo n) := fun B S st g i r' e => by
  cases (show some (rangeD lo n)[i]? = some r' from e)
  unfold rangeD
  rw [List.getElem?_map]
  by_cases hi : i < n
  · rw [List.getElem?_range hi]
    refine ⟨Nat.lt_of_lt_of_le hi hn, hi, fun x H' hy => ?_⟩
    obtain ⟨rfl, rfl⟩ := hy
    exact ⟨B, rfl, Ext.refl B, g, rfl⟩
  · rw [List.getElem?_eq_none (by simpa using Nat.le_of_not_lt hi)]
    exact Nat.le_of_not_lt hi

section
variable {X : Cx} {K : PySem.W.Frag} {mg : Str → Option Value} {W : WX} {pos p : Pos} {tg a b : Expr} {ea eb : Env → M D} {el : Env → M (List D)}
def srcOf (S : Store) : D → Option Src
  | .tup xs => some (.fix xs)
  | .lst xs => some (.fix xs)
  | .cell n => match S[n]? with
    | some (.lst _) => some (.cel n)
    | _ => none
  | _ => none
def walkM (ea : Env → M D) : Env → M Src := fun ρ => M.bind (ea ρ) fun x => fun S => M.opt (srcOf S x) S
theorem PI.or {w w' : TI} (h : PI X tg a w) (h' : PI X tg a w') : PI X tg a (fun σ H R => w σ H R ∨ w' σ H R) := ⟨fun pins s σ H R I q => by
  rcases q with q | q
  · exact h.run pins s σ H R I q
  · exact h'.run pins s σ H R I q⟩
theorem PI.less {w w' : TI} (h : PI X tg a w) (i : ∀ σ H R, w' σ H R → w σ H R) : PI X tg a w' := ⟨fun pins s σ H R I q => h.run pins s σ H R I (i σ H R q)⟩
theorem sI_of (eK : X.K = K) (ha : PE X a (TEv K mg W ea)) : PI X tg a (TIv K mg W (walkM ea)) := by
  subst eK
  refine PI.less (PI.or (pi_list ha) (pi_tup ha)) fun σ H R h => ?_
  obtain ⟨A, ρ, S, eK, em, eH, g, r1, h⟩ := h
  have h : Post Walks A ((ea ρ S).bind fun x => fun S => M.opt (srcOf S x) S) R (fun c d H' => W c d σ H') := h
  by_cases ht : ∃ xs S1, ea ρ S = .ok (.tup xs) S1
  · obtain ⟨xs, S1, e⟩ := ht
    refine .inr ⟨A, ρ, S, eK, em, eH, g, r1, ?_⟩
    rw [e] at h ⊢
    intro v B x1 g1 q1
    obtain ⟨q, vs, rfl, k1, k2, k3⟩ := q1
    have eKB : B.K = X.K := x1.K.trans eK
    refine ⟨q, rfl, ⟨vs, SqT.of k1⟩, ?_⟩
    have hw := walks_tup k1 k2 k3
    rw [eKB] at hw
    exact h _ B x1 g1 hw
  · refine .inl ⟨A, ρ, S, eK, em, eH, g, r1, ?_⟩
    cases e : ea ρ S with
    | ok d S1 =>
      rw [e] at h
      have h : Post Walks A (M.opt (srcOf S1 d) S1) R (fun c d H' => W c d σ H') := h
      intro v B x1 g1 q1
      have eKB : B.K = X.K := x1.K.trans eK
      cases d with
      | tup xs => exact absurd ⟨xs, S1, e⟩ ht
      | lst xs =>
        obtain ⟨q, vs, rfl, k1, k2, k3⟩ := q1
        refine ⟨q, rfl, ⟨vs, by rw [← eKB]; exact k1.sq⟩, ?_⟩
        have hw := walks_list k1 k2 k3
        rw [eKB] at hw
        exact h _ B x1 g1 hw
      | cell n =>
        obtain ⟨q, k1, rfl⟩ := q1
        have hs : srcOf S1 (.cell n) = (match S1[n]? with
          | some (.lst _) => some (Src.cel n)
          | _ => none) := rfl
        rw [hs] at h
        cases e2 : S1[n]? with
        | none => rw [e2] at h; exact h.elim
        | some c =>
          rw [e2] at h
          cases c with
          | lst ys =>
            obtain ⟨vs, e3, _, _⟩ := g1.ok n _ q e2 k1
            refine ⟨q, rfl, ⟨vs, SqL.of e3⟩, ?_⟩
            have hw := walks_cell k1
            rw [eKB] at hw
            exact h _ B x1 g1 hw
          | _ => exact h.elim
      | _ => exact h.elim
    | exc x S1 =>
      rw [e] at h
      exact h
    | bad =>
      rw [e] at h
      exact h
def rngD : List D → Option Src
  | [.int j] => if -1000000 ≤ j ∧ j ≤ 1000000 then some (.fix (rangeD 0 j.toNat)) else none
  | [.int i, .int j] => if -1000000 ≤ i ∧ i ≤ 1000000 ∧ -1000000 ≤ j ∧ j ≤ 1000000 then some (.fix (rangeD i (j - i).toNat)) else none
  | _ => none
def rngM (el : Env → M (List D)) : Env → M Src := fun ρ => M.bind (el ρ) fun ds => M.opt (rngD ds)
theorem sI_rng1 (hs : isStar a = false) (hg : Gl X "range") (hm : X.mg "range" = none) (ha : PA X [a] (TAv K mg W el)) (hl : LenIs el 1) : PI X tg (.Call (.Name "range" p) [a] [] pos) (TIv K mg W (rngM el)) :=
  PI.less (pi_range1 hg hm ha (star_of hs)) fun σ H R h => by
    obtain ⟨A, ρ, S, eK, em, eH, g, r1, h⟩ := h
    refine ⟨A, ρ, S, eK, em, eH, g, r1, Rdg.bind h fun xs S1 vs B eq x1 g1 q1 h1 => ?_⟩
    have e1 := hl _ _ _ _ eq
    match xs, e1 with
    | [d], _ =>
      obtain ⟨v, rfl, r2⟩ := q1.one'
      cases d with
      | int j =>
        have h1 : Post Walks B (M.opt (if -1000000 ≤ j ∧ j ≤ 1000000 then some (Src.fix (rangeD 0 j.toNat)) else none) S1) R (fun c d H' => W c d σ H') := h1
        by_cases hj : -1000000 ≤ j ∧ j ≤ 1000000
        · rw [if_pos hj] at h1
          exact ⟨j, by rw [show v = V.int j from r2], by omega, by omega, h1 _ B (Ext.refl B) g1 (walks_rng (by rw [sizeLine_eq]; omega))⟩
        · rw [if_neg hj] at h1
          exact h1.elim
      | _ => exact h1.elim
theorem sI_rng2 (hs : isStar a = false) (hs2 : isStar b = false) (hg : Gl X "range") (hm : X.mg "range" = none) (ha : PA X [a, b] (TAv K mg W el)) (hl : LenIs el 2) : PI X tg (.Call (.Name "range" p) [a, b] [] pos) (TIv K mg W (rngM el)) :=
  PI.less (pi_range2 hg hm ha (by rw [star_of hs, star_of hs2]; rfl) (star_of hs2)) fun σ H R h => by
    obtain ⟨A, ρ, S, eK, em, eH, g, r1, h⟩ := h
    refine ⟨A, ρ, S, eK, em, eH, g, r1, Rdg.bind h fun xs S1 vs B eq x1 g1 q1 h1 => ?_⟩
    have e1 := hl _ _ _ _ eq
    match xs, e1 with
    | [d, d'], _ =>
      obtain ⟨v, w, rfl, r2, r3⟩ := q1.two'
      cases d with
      | int i =>
        cases d' with
        | int j =>
          have h1 : Post Walks B (M.opt (if -1000000 ≤ i ∧ i ≤ 1000000 ∧ -1000000 ≤ j ∧ j ≤ 1000000 then some (Src.fix (rangeD i (j - i).toNat)) else none) S1) R (fun c d H' => W c d σ H') := h1
          by_cases hj : -1000000 ≤ i ∧ i ≤ 1000000 ∧ -1000000 ≤ j ∧ j ≤ 1000000
          · rw [if_pos hj] at h1
            exact ⟨i, j, by rw [show v = V.int i from r2, show w = V.int j from r3], ⟨by omega, by omega, by omega, by omega⟩, h1 _ B (Ext.refl B) g1 (walks_rng (by rw [sizeLine_eq]; omega))⟩
          · rw [if_neg hj] at h1
            exact h1.elim
        | _ => exact h1.elim
      | _ => cases d' <;> exact h1.elim
end

/-! ### comprehensions -/
/-- no exception leaves -/
def R.nox {α : Type} : R α → R α
  | .ok a S => .ok a S
  | .exc _ _ => .bad
  | .bad => .bad
def M.nox {α : Type} (m : M α) : M α := fun S => (m S).nox
def wipeE (ρ : Env) : List Nat → Env
  | [] => ρ
  | v :: vs => (wipeE ρ vs).set v none
/-- a walk with a state -/
def walkGo {β : Type} (s : Src) (body : β → D → M β) : Nat → Nat → β → M β
  | 0, _, _ => M.bad
  | n + 1, i, acc => fun S => match srcAt s S i with
    | none => .bad
    | some none => .ok acc S
    | some (some d) => (body acc d S).bind fun acc' => walkGo s body n (i + 1) acc'
def walkAll {β : Type} (s : Src) (body : β → D → M β) (acc : β) : M β := fun S => walkGo s body (srcFuel s S) 0 acc S
def condM (ec : Option (Env → M D)) : Env → M Bool := fun ρ => match ec with
  | none => M.pure true
  | some c => asBl c ρ
def lcBody (vs : List Nat) (tg : LT) (ec : Option (Env → M D)) (ee : Env → M D) (ρ : Env) (acc : List D) (d : D) : M (List D) := match asgT tg d (wipeE ρ vs) with
  | none => M.bad
  | some ρ' => M.bind (M.nox (condM ec ρ')) fun t => if t = true then M.bind (M.nox (ee ρ')) fun y => M.pure (acc ++ [y]) else M.pure acc
def lcM (vs : List Nat) (es : Env → M Src) (tg : LT) (ec : Option (Env → M D)) (ee : Env → M D) : Env → M D := fun ρ => M.bind (es ρ) fun s => M.bind (walkAll s (lcBody vs tg ec ee ρ) []) fun ys => M.pure (.lst ys)

theorem EnvR.wipe {A : At} {ρ : Env} {σ : L2.St} (h : EnvR A ρ σ) : ∀ vs : List Nat, EnvR A (wipeE ρ vs) (L2.wipe σ vs)
  | [] => h
  | v :: vs => by
    have ih := EnvR.wipe h vs
    refine ⟨by show ((L2.wipe σ vs).set v none).length = ((wipeE ρ vs).set v none).length; rw [List.length_set, List.length_set]; exact ih.1, fun i d e => ?_⟩
    have e' : ((wipeE ρ vs).set v none)[i]? = some (some d) := e
    by_cases hv : v = i
    · subst hv
      by_cases hlt : v < (wipeE ρ vs).length
      · rw [List.getElem?_set_self hlt] at e'
        cases e'
      · rw [List.getElem?_eq_none (by rw [List.length_set]; omega)] at e'
        cases e'
    · rw [List.getElem?_set_ne hv] at e'
      obtain ⟨w, e1, r⟩ := ih.2 i d e'
      exact ⟨w, by show ((L2.wipe σ vs).set v none)[i]? = _; rw [List.getElem?_set_ne hv]; exact e1, r⟩
theorem wipe_idem (σ : L2.St) (vs : List Nat) : L2.wipe (L2.wipe σ vs) vs = L2.wipe σ vs := by
  have gen : ∀ (ws us : List Nat), (∀ i ∈ us, i ∈ ws) → L2.wipe (L2.wipe σ us) ws = L2.wipe σ ws := by
    intro ws us
    induction us with
    | nil => intro _; rfl
    | cons u us ih =>
      intro h
      show L2.wipe ((L2.wipe σ us).set u none) ws = _
      rw [wipe_set (h u List.mem_cons_self)]
      exact ih fun i hi => h i (List.mem_cons_of_mem _ hi)
  exact gen vs vs fun _ h => h
/-- the list that is being made stands at p: no value leads there -/
def At.hid (A : At) (p : Addr) (vs : List V) : At := { A with E := fun q => A.E q ∨ q = p, H := upd A.H p (.lst vs) }
theorem stp_hid {A : At} {S : Store} {p : Addr} {vs : List V} (g : Gd A S) (n : A.H p = none) : Stp A (A.hid p vs) where
  K := rfl
  mg := rfl
  pre := fun _ _ h => h
  rd := fun q ws h => by
    rcases h with ⟨h1, h2, h3⟩ | h
    · obtain ⟨o, e, _⟩ := Rd.there h3
      have hq : q ≠ p := ne_of_none e n
      refine .inl ⟨h1, fun z => z.elim h2 hq, ?_⟩
      rcases h3 with h3 | ⟨b, h3⟩
      · exact .inl ((upd_ne hq).trans h3)
      · exact .inr ⟨b, (upd_ne hq).trans h3⟩
    · exact .inr h
  tp := fun q o _ h => (upd_ne (ne_of_none h n)).trans h
theorem gd_hid {A : At} {S : Store} {p : Addr} {vs : List V} (g : Gd A S) (n : A.H p = none) : Gd (A.hid p vs) S where
  len := g.len
  nd := g.nd
  ok := fun k c q h1 h2 => by
    have hq : q ≠ p := fun z => by
      subst z
      exact g.there (List.mem_iff_getElem?.mpr ⟨k, h2⟩) n
    show CellR (A.hid p vs) c (upd A.H p (.lst vs) q)
    rw [upd_ne hq]
    exact (g.ok k c q h1 h2).step (stp_hid g n)
  noE := fun q hq z => z.elim (g.noE q hq) fun e => by
    subst e
    exact g.there hq n
  Es := fun q h => by
    show upd A.H p (.lst vs) q ≠ none
    by_cases hq : q = p
    · subst hq
      rw [upd_same]
      exact fun z => by cases z
    · rw [upd_ne hq]
      exact g.Es q (h.resolve_right hq)
/-- behind a turn: one item more -/
def At.app (A : At) (p : Addr) (vs : List V) : At := { A with H := upd A.H p (.lst vs) }
theorem stp_app {A : At} {p : Addr} {vs ws : List V} (hE : A.E p) (hH : A.H p = some (.lst vs)) : Stp A (A.app p ws) where
  K := rfl
  mg := rfl
  pre := fun _ _ h => h
  rd := fun q us h => by
    rcases h with ⟨h1, h2, h3⟩ | h
    · have hq : q ≠ p := fun z => h2 (by rw [z]; exact hE)
      refine .inl ⟨h1, h2, ?_⟩
      rcases h3 with h3 | ⟨b, h3⟩
      · exact .inl ((upd_ne hq).trans h3)
      · exact .inr ⟨b, (upd_ne hq).trans h3⟩
    · exact .inr h
  tp := fun q o z h => (upd_ne (ne_of h hH z.lst)).trans h
theorem gd_app {A : At} {S : Store} {p : Addr} {vs ws : List V} (g : Gd A S) (hE : A.E p) (hH : A.H p = some (.lst vs)) : Gd (A.app p ws) S where
  len := g.len
  nd := g.nd
  ok := fun k c q h1 h2 => by
    have hq : q ≠ p := fun z => by
      subst z
      exact g.noE q (List.mem_iff_getElem?.mpr ⟨k, h2⟩) hE
    show CellR (A.app p ws) c (upd A.H p (.lst ws) q)
    rw [upd_ne hq]
    exact (g.ok k c q h1 h2).step (stp_app hE hH)
  noE := g.noE
  Es := fun q h => by
    show upd A.H p (.lst ws) q ≠ none
    by_cases hq : q = p
    · subst hq
      rw [upd_same]
      exact fun z => by cases z
    · rw [upd_ne hq]
      exact g.Es q h
/-- the hidden list out in the open again -/
def At.bare (A : At) (E : Addr → Prop) : At := { A with E := E }
structure Mid (A0 : At) (p : Addr) (A : At) (S : Store) (acc : List D) : Prop where
  E : A.E = fun q => A0.E q ∨ q = p
  st : Stp A0 A
  x : Ext A0 (A.bare A0.E)
  g : Gd A S
  ex : ∃ vs, A.H p = some (.lst vs) ∧ RelL A acc vs
theorem Mid.E' {A0 : At} {p : Addr} {A : At} {S : Store} {acc : List D} (h : Mid A0 p A S acc) : A.E p := by
  rw [h.E]
  exact .inr rfl
theorem Mid.start {A0 : At} {S : Store} {p : Addr} (g : Gd A0 S) (n : A0.H p = none) : Mid A0 p (A0.hid p []) S [] where
  E := rfl
  st := stp_hid g n
  x := ⟨rfl, rfl, rfl, fun _ _ h => h, fun _ h => .inl h, fun q o _ e => (upd_ne (ne_of_none e n)).trans e⟩
  g := gd_hid g n
  ex := ⟨[], upd_same, .nil⟩
theorem Mid.on {A0 : At} {p : Addr} {A B : At} {S S' : Store} {acc : List D} (h : Mid A0 p A S acc) (x : Ext A B) (g : Gd B S') : Mid A0 p B S' acc where
  E := x.E.trans h.E
  st := by
    have s := x.step h.g
    exact ⟨s.K.trans h.st.K, s.mg.trans h.st.mg, fun n q e => s.pre n q (h.st.pre n q e), fun q vs e => s.rd q vs (h.st.rd q vs e), fun q o z e => s.tp q o z (h.st.tp q o z e)⟩
  x := by
    have x' : Ext (A.bare A0.E) (B.bare A0.E) := ⟨x.K, x.mg, rfl, x.pre, x.fresh, x.keep⟩
    exact h.x.trans x'
  g := g
  ex := by
    obtain ⟨vs, e, r⟩ := h.ex
    exact ⟨vs, x.keep p _ (fun z => h.g.noE p z h.E') e, RelL.step (x.step h.g) _ _ r⟩
theorem Mid.app {A0 : At} {S0 : Store} {p : Addr} {A : At} {S : Store} {acc : List D} {vs : List V} {y : D} {v : V} (g0 : Gd A0 S0) (n0 : A0.H p = none) (h : Mid A0 p A S acc) (hH : A.H p = some (.lst vs)) (r : RelL A acc vs) (ry : Rel A y v) : Mid A0 p (A.app p (vs ++ [v])) S (acc ++ [y]) where
  E := h.E
  st := by
    have s := stp_app (ws := vs ++ [v]) h.E' hH
    exact ⟨s.K.trans h.st.K, s.mg.trans h.st.mg, fun n q e => s.pre n q (h.st.pre n q e), fun q vs e => s.rd q vs (h.st.rd q vs e), fun q o z e => s.tp q o z (h.st.tp q o z e)⟩
  x := ⟨h.x.K, h.x.mg, rfl, h.x.pre, h.x.fresh, fun q o hq e => (upd_ne (ne_of_none e n0)).trans (h.x.keep q o hq e)⟩
  g := gd_app h.g h.E' hH
  ex := ⟨vs ++ [v], upd_same, RelL.step (stp_app h.E' hH) _ _ (r.append (.one ry))⟩
/-- the end: the list is a value like others -/
theorem Mid.done {A0 : At} {S0 : Store} {p : Addr} {A : At} {S : Store} {acc : List D} {Q : VK} {W : XK} (g0 : Gd A0 S0) (n0 : A0.H p = none) (h : Mid A0 p A S acc) (hz : acc.length ≤ sizeLine) (q : Post Rel A0 (.ok (.lst acc) S) Q W) : Q (.ref p) A.H := by
  obtain ⟨vs, hH, r⟩ := h.ex
  have hpm : p ∉ A.m := fun z => h.g.noE p z h.E'
  have st : Stp A (A.bare A0.E) := ⟨rfl, rfl, fun _ _ e => e, fun q ws e => by
    rcases e with ⟨e1, e2, e3⟩ | e
    · exact .inl ⟨e1, fun z => e2 (by rw [h.E]; exact .inl z), e3⟩
    · exact .inr e, fun _ _ _ e => e⟩
  have g' : Gd (A.bare A0.E) S := ⟨h.g.len, h.g.nd, fun k c q h1 h2 => (h.g.ok k c q h1 h2).step st, fun q hq z => h.g.noE q hq (by rw [h.E]; exact .inl z), fun q z => h.g.Es q (by rw [h.E]; exact .inl z)⟩
  exact q (.ref p) (A.bare A0.E) h.x g' ⟨p, vs, rfl, .inl ⟨hpm, fun z => g0.Es p z n0, .inl hH⟩, hz, RelL.step st _ _ r⟩
end LC

end
section
set_option maxHeartbeats 1000000
/-! LC11: list comprehensions. -/
namespace LC
open PySem PySem.Spec PyProof.Rows L2
abbrev W0 : WX := fun _ _ _ _ => False
abbrev TTo (K : PySem.W.Frag) (mg : Str → Option Value) : Option (Env → M D) → TT
  | none => tYes
  | some c => TTv K mg W0 (asBl c)
/-- a clause's tests, read -/
theorem rd_cond {K : PySem.W.Frag} {mg : Str → Option Value} {ec : Option (Env → M D)} {A : At} {ρ : Env} {S : Store} {σ : L2.St} {Q : Bool → Hp → Prop} (eK : A.K = K) (em : A.mg = mg) (g : Gd A S) (r : EnvR A ρ σ)
    (h : ∀ t S', M.nox (condM ec ρ) S = .ok t S' → ∀ B, Ext A B → Gd B S' → Q t B.H) (hb : M.nox (condM ec ρ) S ≠ .bad) : TTo K mg ec σ A.H Q := by
  cases ec with
  | none => exact h true S rfl A (Ext.refl A) g
  | some c =>
    refine ⟨A, ρ, S, eK, em, rfl, g, r, ?_⟩
    have e : M.nox (condM (some c) ρ) S = (asBl c ρ S).nox := rfl
    rw [e] at h hb
    cases q : asBl c ρ S with
    | ok t S' =>
      rw [q] at h
      intro v B x g' hv
      rw [hv]
      exact h t S' rfl B x g'
    | exc x S' => rw [q] at hb; exact absurd rfl hb
    | bad => rw [q] at hb; exact absurd rfl hb
/-- an element, read -/
theorem rd_elt {K : PySem.W.Frag} {mg : Str → Option Value} {ee : Env → M D} {A : At} {ρ : Env} {S : Store} {σ : L2.St} {Q : VK} (eK : A.K = K) (em : A.mg = mg) (g : Gd A S) (r : EnvR A ρ σ)
    (h : ∀ y S', M.nox (ee ρ) S = .ok y S' → ∀ v B, Ext A B → Gd B S' → Rel B y v → Q v B.H) (hb : M.nox (ee ρ) S ≠ .bad) : TEv K mg W0 ee σ A.H Q := by
  refine ⟨A, ρ, S, eK, em, rfl, g, r, ?_⟩
  have e : M.nox (ee ρ) S = (ee ρ S).nox := rfl
  rw [e] at h hb
  cases q : ee ρ S with
  | ok t S' =>
    rw [q] at h
    exact fun v B x g' hv => h t S' rfl v B x g' hv
  | exc x S' => rw [q] at hb; exact absurd rfl hb
  | bad => rw [q] at hb; exact absurd rfl hb
theorem Post.notBad {α β : Type} {rel : At → α → β → Prop} {A : At} {Q : β → Hp → Prop} {W : XK} {r : R α} (h : Post rel A r Q W) : r ≠ .bad := fun z => by
  rw [z] at h
  exact h
section
variable {X : Cx} {K : PySem.W.Frag} {mg : Str → Option Value} {W : WX} {pos : Pos} {elt tgE iter : Expr} {ifs : List Expr} {scope : Scope} {own : List (Str × Nat)} {es : Env → M Src} {tg : LT} {ec : Option (Env → M D)} {ee : Env → M D}
theorem rd_lc {vs : List Nat} (hsl : ∀ i ∈ tg.slots, i ∈ vs) {σ : L2.St} {H : Hp} {Q : VK} (h : TEv K mg W (lcM vs es tg ec ee) σ H Q) :
    tLc (TIv K mg W es) (TGv K mg tg) (TTo K mg ec) (TEv K mg W0 ee) vs σ H Q := by
  obtain ⟨A, ρ, S, eK, em, eH, g, r1, h⟩ := h
  refine ⟨A, ρ, S, eK, em, eH, g, r1, Rdg.bind h fun s S1 J B eq x1 g1 q1 h1 => ?_⟩
  have eKB : B.K = K := x1.K.trans eK
  have emB : B.mg = mg := x1.mg.trans em
  have rB : EnvR B ρ σ := r1.step (x1.step g)
  intro p hp
  refine ⟨fun i m H' => ∃ (C : At) (S' : Store) (acc : List D), C.H = H' ∧ Mid B p C S' acc ∧ (acc.length ≤ i ∧ i ≤ sizeLine) ∧ Post Rel B ((walkGo s (lcBody vs tg ec ee ρ) m i acc S').bind fun ys => M.pure (.lst ys)) Q (fun c d H' => W c d σ H'),
    ⟨srcFuel s S1, B.hid p [], S1, [], rfl, Mid.start g1 hp, ⟨Nat.le_refl _, Nat.zero_le _⟩, h1⟩, ?_⟩
  rintro i m H' ⟨C, S', acc, rfl, mid, ⟨hl, hi2⟩, h2⟩
  cases m with
  | zero => exact h2.elim
  | succ m =>
    have e2 : walkGo s (lcBody vs tg ec ee ρ) (m + 1) i acc S' = (match srcAt s S' i with
      | none => .bad
      | some none => .ok acc S'
      | some (some d) => (lcBody vs tg ec ee ρ acc d S').bind fun acc' => walkGo s (lcBody vs tg ec ee ρ) m (i + 1) acc') := rfl
    rw [e2] at h2
    cases e : srcAt s S' i with
    | none => rw [e] at h2; exact h2.elim
    | some r =>
      have hw := q1 C S' mid.st mid.g i r e
      rw [e] at h2
      cases r with
      | none => exact .inl ⟨hw, mid.done g1 hp (Nat.le_trans hl hi2) h2⟩
      | some d =>
        obtain ⟨hi, hgo, hy⟩ := hw
        refine .inr ⟨hgo, _, fun H' z => z, fun x H' y => ?_⟩
        obtain ⟨G, rfl, x2, g2, r2⟩ := hy x H' y
        have mid2 := mid.on x2 g2
        have eKG : G.K = K := mid2.st.K.trans eKB
        have emG : G.mg = mg := mid2.st.mg.trans emB
        have rG : EnvR G (wipeE ρ vs) (wipe σ vs) := (rB.step mid2.st).wipe vs
        have h2 : Post Rel B (((lcBody vs tg ec ee ρ acc d S').bind fun acc' => walkGo s (lcBody vs tg ec ee ρ) m (i + 1) acc').bind fun ys => M.pure (.lst ys)) Q (fun c d H' => W c d σ H') := h2
        unfold lcBody at h2
        cases ea : asgT tg d (wipeE ρ vs) with
        | none => rw [ea] at h2; exact h2.elim
        | some ρ' =>
          rw [ea] at h2
          simp only [M.bind_ap] at h2
          refine ⟨G, wipeE ρ vs, ρ', S', d, eKG, emG, rfl, g2, rG, r2, ea, fun σ2 rσ al => ⟨(al vs hsl).trans (wipe_idem σ vs), ?_⟩⟩
          refine rd_cond eKG emG g2 rσ (fun t S2 et C2 x3 g3 => ?_) fun z => by rw [z] at h2; exact h2.elim
          rw [et] at h2
          simp only [R.bind_ok] at h2
          have mid3 := mid2.on x3 g3
          cases t with
          | false =>
            rw [if_neg Bool.false_ne_true]
            rw [if_neg Bool.false_ne_true] at h2
            exact ⟨m, Nat.lt_succ_self m, C2, S2, acc, rfl, mid3, ⟨Nat.le_succ_of_le hl, hi⟩, h2⟩
          | true =>
            rw [if_pos rfl]
            rw [if_pos rfl] at h2
            simp only [M.bind_ap] at h2
            refine rd_elt (x3.K.trans eKG) (x3.mg.trans emG) g3 (rσ.step (x3.step g2)) (fun y S3 ey v C3 x4 g4 ry => ?_) fun z => by rw [z] at h2; exact h2.elim
            rw [ey] at h2
            simp only [R.bind_ok, M.pure_ap] at h2
            have mid4 := mid3.on x4 g4
            obtain ⟨ws, hws, rws⟩ := mid4.ex
            refine ⟨ws, hws, by rw [rws.len]; exact Nat.lt_of_le_of_lt hl hi, ?_⟩
            exact ⟨m, Nat.lt_succ_self m, C3.app p (ws ++ [v]), S3, acc ++ [y], rfl, mid4.app g1 hp hws rws ry, ⟨by rw [List.length_append]; exact Nat.succ_le_succ hl, hi⟩, h2⟩
theorem sE_lc {vs : List Nat} (hvs : vs = own.map (·.2)) (hsl : ∀ i ∈ tg.slots, i ∈ vs) (hc : X.calm = true) (hN : X.N.Nodup) (hi : PI X tgE iter (TIv K mg W es)) (ok : BlkOk X.N X.env.scope scope own)
    (hg : ∀ (s : Shared) (H : Hp) (C : Addr) (cl : List (Str × Addr)) (fp : List Addr), PG (X.blk s H scope (compEnvC scope cl C X.env) fp) tgE (TGv K mg tg))
    (ht : ∀ (s : Shared) (H : Hp) (C : Addr) (cl : List (Str × Addr)) (fp : List Addr), PTs (X.blk s H scope (compEnvC scope cl C X.env) fp) ifs (TTo K mg ec))
    (he : ∀ (s : Shared) (H : Hp) (C : Addr) (cl : List (Str × Addr)) (fp : List Addr), PE (X.blk s H scope (compEnvC scope cl C X.env) fp) elt (TEv K mg W0 ee)) (hs : ∀ x, foldedSetIterable iter X.env x = pure x) :
    PE X (.ListComp elt [⟨tgE, iter, ifs, 0⟩] scope pos) (TEv K mg W (lcM vs es tg ec ee)) := by
  subst hvs
  exact (pe_lc hc hN hi ok hg ht he hs).less fun σ H Q h => rd_lc hsl h

/-! ### two clauses -/
def lcBody1 (vs1 : List Nat) (tg1 : LT) (ec1 : Option (Env → M D)) (ee : Env → M D) (ρ : Env) (acc : List D) (d : D) : M (List D) := match asgT tg1 d (wipeE ρ vs1) with
  | none => M.bad
  | some ρ' => M.bind (M.nox (condM ec1 ρ')) fun t => if t = true then M.bind (M.nox (ee ρ')) fun y => if acc.length < line then M.pure (acc ++ [y]) else M.bad else M.pure acc
def lcBody2 (vs vs1 : List Nat) (tg : LT) (ec : Option (Env → M D)) (es1 : Env → M Src) (tg1 : LT) (ec1 : Option (Env → M D)) (ee : Env → M D) (ρ : Env) (acc : List D) (d : D) : M (List D) := match asgT tg d (wipeE ρ vs) with
  | none => M.bad
  | some ρ' => M.bind (M.nox (condM ec ρ')) fun t => if t = true then M.bind (M.nox (es1 ρ')) fun s1 => walkAll s1 (lcBody1 vs1 tg1 ec1 ee ρ') acc else M.pure acc
def lc2M (vs vs1 : List Nat) (es : Env → M Src) (tg : LT) (ec : Option (Env → M D)) (es1 : Env → M Src) (tg1 : LT) (ec1 : Option (Env → M D)) (ee : Env → M D) : Env → M D := fun ρ => M.bind (es ρ) fun s => M.bind (walkAll s (lcBody2 vs vs1 tg ec es1 tg1 ec1 ee ρ) []) fun ys => M.pure (.lst ys)
theorem rd_src {K : PySem.W.Frag} {mg : Str → Option Value} {es : Env → M Src} {A : At} {ρ : Env} {S : Store} {σ : L2.St} {Q : It → Hp → Prop} (eK : A.K = K) (em : A.mg = mg) (g : Gd A S) (r : EnvR A ρ σ)
    (h : ∀ s S', M.nox (es ρ) S = .ok s S' → ∀ J B, Ext A B → Gd B S' → Walks B s J → Q J B.H) (hb : M.nox (es ρ) S ≠ .bad) : TIv K mg W0 es σ A.H Q := by
  refine ⟨A, ρ, S, eK, em, rfl, g, r, ?_⟩
  have e : M.nox (es ρ) S = (es ρ S).nox := rfl
  rw [e] at h hb
  cases q : es ρ S with
  | ok t S' =>
    rw [q] at h
    exact fun v B x g' hv => h t S' rfl v B x g' hv
  | exc x S' => rw [q] at hb; exact absurd rfl hb
  | bad => rw [q] at hb; exact absurd rfl hb
variable {tg1E iter1 : Expr} {ifs1 : List Expr} {es1 : Env → M Src} {tg1 : LT} {ec1 : Option (Env → M D)}
theorem rd_lc2 {vs vs1 : List Nat} (hsl : ∀ i ∈ tg.slots, i ∈ vs) (hsl1 : ∀ i ∈ tg1.slots, i ∈ vs1) {σ : L2.St} {H : Hp} {Q : VK} (h : TEv K mg W (lc2M vs vs1 es tg ec es1 tg1 ec1 ee) σ H Q) :
    tLc2 (TIv K mg W es) (TGv K mg tg) (TTo K mg ec) (TIv K mg W0 es1) (TGv K mg tg1) (TTo K mg ec1) (TEv K mg W0 ee) vs vs1 σ H Q := by
  obtain ⟨A, ρ, S, eK, em, eH, g, r1, h⟩ := h
  refine ⟨A, ρ, S, eK, em, eH, g, r1, Rdg.bind h fun s S1 J B eq x1 g1 q1 h1 => ?_⟩
  have eKB : B.K = K := x1.K.trans eK
  have emB : B.mg = mg := x1.mg.trans em
  have rB : EnvR B ρ σ := r1.step (x1.step g)
  intro p hp
  generalize hb2 : lcBody2 vs vs1 tg ec es1 tg1 ec1 ee ρ = body at h1
  refine ⟨fun i m H' => ∃ (C : At) (S' : Store) (acc : List D), C.H = H' ∧ Mid B p C S' acc ∧ acc.length ≤ sizeLine ∧ Post Rel B ((walkGo s body m i acc S').bind fun ys => M.pure (.lst ys)) Q (fun c d H' => W c d σ H'),
    ⟨srcFuel s S1, B.hid p [], S1, [], rfl, Mid.start g1 hp, Nat.zero_le _, h1⟩, ?_⟩
  rintro i m H' ⟨C, S', acc, rfl, mid, hl, h2⟩
  cases m with
  | zero => exact h2.elim
  | succ m =>
    have e2 : walkGo s body (m + 1) i acc S' = (match srcAt s S' i with
      | none => .bad
      | some none => .ok acc S'
      | some (some d) => (body acc d S').bind fun acc' => walkGo s body m (i + 1) acc') := rfl
    rw [e2] at h2
    cases e : srcAt s S' i with
    | none => rw [e] at h2; exact h2.elim
    | some r =>
      have hw := q1 C S' mid.st mid.g i r e
      rw [e] at h2
      cases r with
      | none => exact .inl ⟨hw, mid.done g1 hp hl h2⟩
      | some d =>
        obtain ⟨hi, hgo, hy⟩ := hw
        refine .inr ⟨hgo, _, fun H' z => z, fun x H' y => ?_⟩
        obtain ⟨G, rfl, x2, g2, r2⟩ := hy x H' y
        have mid2 := mid.on x2 g2
        have eKG : G.K = K := mid2.st.K.trans eKB
        have emG : G.mg = mg := mid2.st.mg.trans emB
        have rG : EnvR G (wipeE ρ vs) (wipe σ vs) := (rB.step mid2.st).wipe vs
        have h2 : Post Rel B (((lcBody2 vs vs1 tg ec es1 tg1 ec1 ee ρ acc d S').bind fun acc' => walkGo s body m (i + 1) acc').bind fun ys => M.pure (.lst ys)) Q (fun c d H' => W c d σ H') := by
          rw [hb2]
          exact h2
        unfold lcBody2 at h2
        cases ea : asgT tg d (wipeE ρ vs) with
        | none => rw [ea] at h2; exact h2.elim
        | some ρ' =>
          rw [ea] at h2
          simp only [M.bind_ap] at h2
          refine ⟨G, wipeE ρ vs, ρ', S', d, eKG, emG, rfl, g2, rG, r2, ea, fun σ2 rσ al => ⟨(al vs hsl).trans (wipe_idem σ vs), ?_⟩⟩
          refine rd_cond eKG emG g2 rσ (fun t S2 et C2 x3 g3 => ?_) fun z => by rw [z] at h2; exact h2.elim
          rw [et] at h2
          simp only [R.bind_ok] at h2
          have mid3 := mid2.on x3 g3
          cases t with
          | false =>
            rw [if_neg Bool.false_ne_true]
            rw [if_neg Bool.false_ne_true] at h2
            exact ⟨m, Nat.lt_succ_self m, C2, S2, acc, rfl, mid3, hl, h2⟩
          | true =>
            rw [if_pos rfl]
            rw [if_pos rfl] at h2
            simp only [M.bind_ap] at h2
            refine rd_src (x3.K.trans eKG) (x3.mg.trans emG) g3 (rσ.step (x3.step g2)) (fun s1 S3 es3 J1 C3 x4 g4 q4 => ?_) fun z => by rw [z] at h2; exact h2.elim
            rw [es3] at h2
            simp only [R.bind_ok] at h2
            have mid4 := mid3.on x4 g4
            have rσ4 : EnvR C3 ρ' σ2 := (rσ.step (x3.step g2)).step (x4.step g3)
            have eK3 : C3.K = K := x4.K.trans (x3.K.trans eKG)
            have em3 : C3.mg = mg := x4.mg.trans (x3.mg.trans emG)
            -- the inner walk
            refine ⟨fun j k H' => ∃ (C4 : At) (S4 : Store) (acc4 : List D), C4.H = H' ∧ Mid B p C4 S4 acc4 ∧ Stp C3 C4 ∧ acc4.length ≤ sizeLine ∧
                Post Rel B (((walkGo s1 (lcBody1 vs1 tg1 ec1 ee ρ') k j acc4 S4).bind fun acc' => walkGo s body m (i + 1) acc').bind fun ys => M.pure (.lst ys)) Q (fun c d H' => W c d σ H'),
              ⟨srcFuel s1 S3, C3, S3, acc, rfl, mid4, (Ext.refl C3).step g4, hl, h2⟩, ?_⟩
            rintro j k H' ⟨C4, S4, acc4, rfl, mid5, st5, hl4, h5⟩
            cases k with
            | zero => exact h5.elim
            | succ k =>
              have e5 : walkGo s1 (lcBody1 vs1 tg1 ec1 ee ρ') (k + 1) j acc4 S4 = (match srcAt s1 S4 j with
                | none => .bad
                | some none => .ok acc4 S4
                | some (some d) => (lcBody1 vs1 tg1 ec1 ee ρ' acc4 d S4).bind fun acc' => walkGo s1 (lcBody1 vs1 tg1 ec1 ee ρ') k (j + 1) acc') := rfl
              rw [e5] at h5
              cases e6 : srcAt s1 S4 j with
              | none => rw [e6] at h5; exact h5.elim
              | some r =>
                have hw1 := q4 C4 S4 st5 mid5.g j r e6
                rw [e6] at h5
                cases r with
                | none => exact .inl ⟨hw1, m, Nat.lt_succ_self m, C4, S4, acc4, rfl, mid5, hl4, h5⟩
                | some d1 =>
                  obtain ⟨_, hgo1, hy1⟩ := hw1
                  refine .inr ⟨hgo1, _, fun H' z => z, fun x' H' y' => ?_⟩
                  obtain ⟨G1, rfl, x6, g6, r6⟩ := hy1 x' H' y'
                  have mid6 := mid5.on x6 g6
                  have st6 : Stp C3 G1 := by
                    have s := x6.step mid5.g
                    exact ⟨s.K.trans st5.K, s.mg.trans st5.mg, fun n q e => s.pre n q (st5.pre n q e), fun q vs e => s.rd q vs (st5.rd q vs e), fun q o z e => s.tp q o z (st5.tp q o z e)⟩
                  have eK6 : G1.K = K := st6.K.trans eK3
                  have em6 : G1.mg = mg := st6.mg.trans em3
                  have h5 : Post Rel B (((((lcBody1 vs1 tg1 ec1 ee ρ' acc4 d1 S4).bind fun acc' => walkGo s1 (lcBody1 vs1 tg1 ec1 ee ρ') k (j + 1) acc')).bind fun acc' => walkGo s body m (i + 1) acc').bind fun ys => M.pure (.lst ys)) Q (fun c d H' => W c d σ H') := h5
                  unfold lcBody1 at h5
                  cases ea1 : asgT tg1 d1 (wipeE ρ' vs1) with
                  | none => rw [ea1] at h5; exact h5.elim
                  | some ρ2 =>
                    rw [ea1] at h5
                    simp only [M.bind_ap] at h5
                    refine ⟨G1, wipeE ρ' vs1, ρ2, S4, d1, eK6, em6, rfl, g6, (rσ4.step st6).wipe vs1, r6, ea1, fun σ3 rσ3 al1 => ⟨(al1 vs1 hsl1).trans (wipe_idem σ2 vs1), ?_⟩⟩
                    refine rd_cond eK6 em6 g6 rσ3 (fun t S5 et5 C5 x7 g7 => ?_) fun z => by rw [z] at h5; exact h5.elim
                    rw [et5] at h5
                    simp only [R.bind_ok] at h5
                    have mid7 := mid6.on x7 g7
                    have st7 : Stp C3 C5 := by
                      have s := x7.step g6
                      exact ⟨s.K.trans st6.K, s.mg.trans st6.mg, fun n q e => s.pre n q (st6.pre n q e), fun q vs e => s.rd q vs (st6.rd q vs e), fun q o z e => s.tp q o z (st6.tp q o z e)⟩
                    cases t with
                    | false =>
                      rw [if_neg Bool.false_ne_true]
                      rw [if_neg Bool.false_ne_true] at h5
                      exact ⟨k, Nat.lt_succ_self k, C5, S5, acc4, rfl, mid7, st7, hl4, h5⟩
                    | true =>
                      rw [if_pos rfl]
                      rw [if_pos rfl] at h5
                      simp only [M.bind_ap] at h5
                      refine rd_elt (x7.K.trans eK6) (x7.mg.trans em6) g7 (rσ3.step (x7.step g6)) (fun y S6 ey v C6 x8 g8 ry => ?_) fun z => by rw [z] at h5; exact h5.elim
                      rw [ey] at h5
                      simp only [R.bind_ok] at h5
                      have mid8 := mid7.on x8 g8
                      obtain ⟨ws, hws, rws⟩ := mid8.ex
                      by_cases hlt : acc4.length < line
                      · rw [if_pos hlt] at h5
                        simp only [M.pure_ap, R.bind_ok] at h5
                        rw [line_eq] at hlt
                        have st8 : Stp C3 (C6.app p (ws ++ [v])) := by
                          have s := x8.step g7
                          have s' := stp_app (ws := ws ++ [v]) mid8.E' hws
                          exact ⟨s'.K.trans (s.K.trans st7.K), s'.mg.trans (s.mg.trans st7.mg), fun n q e => s'.pre n q (s.pre n q (st7.pre n q e)), fun q vs e => s'.rd q vs (s.rd q vs (st7.rd q vs e)), fun q o z e => s'.tp q o z (s.tp q o z (st7.tp q o z e))⟩
                        refine ⟨ws, hws, by rw [rws.len]; exact hlt, ?_⟩
                        exact ⟨k, Nat.lt_succ_self k, C6.app p (ws ++ [v]), S6, acc4 ++ [y], rfl, mid8.app g1 hp hws rws ry, st8, by rw [List.length_append]; exact hlt, h5⟩
                      · rw [if_neg hlt] at h5
                        exact h5.elim
end
end LC

end
section
set_option maxHeartbeats 1000000
/-! LC12: calls of the text's own defs; statements. -/
namespace LC
open PySem PySem.Spec PyProof.Rows L2
section
variable {X : Cx} {K : PySem.W.Frag} {mg : Str → Option Value} {W : WX} {pos : Pos} {elt tgE iter : Expr} {ifs : List Expr} {scope : Scope} {own : List (Str × Nat)} {es : Env → M Src} {tg : LT} {ec : Option (Env → M D)} {ee : Env → M D}
  {tg1E iter1 : Expr} {ifs1 : List Expr} {es1 : Env → M Src} {tg1 : LT} {ec1 : Option (Env → M D)}
theorem sE_lc2 {vs vs1 : List Nat} (hvs : vs = own.map (·.2)) (hv : ∀ i ∈ vs1, i ∈ own.map (·.2)) (hsl : ∀ i ∈ tg.slots, i ∈ vs) (hsl1 : ∀ i ∈ tg1.slots, i ∈ vs1) (hc : X.calm = true) (hN : X.N.Nodup) (hi : PI X tgE iter (TIv K mg W es)) (ok : BlkOk X.N X.env.scope scope own)
    (hg : ∀ (s : Shared) (H : Hp) (C : Addr) (cl : List (Str × Addr)) (fp : List Addr), PG (X.blk s H scope (compEnvC scope cl C X.env) fp) tgE (TGv K mg tg))
    (ht : ∀ (s : Shared) (H : Hp) (C : Addr) (cl : List (Str × Addr)) (fp : List Addr), PTs (X.blk s H scope (compEnvC scope cl C X.env) fp) ifs (TTo K mg ec))
    (hi1 : ∀ (s : Shared) (H : Hp) (C : Addr) (cl : List (Str × Addr)) (fp : List Addr), PI (X.blk s H scope (compEnvC scope cl C X.env) fp) tg1E iter1 (TIv K mg W0 es1))
    (hg1 : ∀ (s : Shared) (H : Hp) (C : Addr) (cl : List (Str × Addr)) (fp : List Addr), PG (X.blk s H scope (compEnvC scope cl C X.env) fp) tg1E (TGv K mg tg1))
    (ht1 : ∀ (s : Shared) (H : Hp) (C : Addr) (cl : List (Str × Addr)) (fp : List Addr), PTs (X.blk s H scope (compEnvC scope cl C X.env) fp) ifs1 (TTo K mg ec1))
    (he : ∀ (s : Shared) (H : Hp) (C : Addr) (cl : List (Str × Addr)) (fp : List Addr), PE (X.blk s H scope (compEnvC scope cl C X.env) fp) elt (TEv K mg W0 ee)) (hs : ∀ x, foldedSetIterable iter X.env x = pure x) (hs1 : ∀ env x, foldedSetIterable iter1 env x = pure x) :
    PE X (.ListComp elt [⟨tgE, iter, ifs, 0⟩, ⟨tg1E, iter1, ifs1, 0⟩] scope pos) (TEv K mg W (lc2M vs vs1 es tg ec es1 tg1 ec1 ee)) := by
  subst hvs
  exact (pe_lc2 hc hN hi ok hv hg ht hi1 hg1 ht1 he hs hs1).less fun σ H Q h => rd_lc2 hsl hsl1 h
theorem fold_of {e : Expr} (h : (match e with | .Set .. => false | _ => true) = true) (env : PySem.Env) (x : Value) : foldedSetIterable e env x = pure x := by
  cases e <;> first | rfl | cases h
end

/-! ### a def of the text -/
def spF (K : PySem.W.Frag) (mg : Str → Option Value) (np : Nat) (cf : List D → M D) : Sp := fun vs H Q E => vs.length = np ∧ ∃ (A : At) (ds : List D) (S : Store), A.K = K ∧ A.mg = mg ∧ A.H = H ∧ Gd A S ∧ RelL A ds vs ∧ Post Rel A (cf ds S) Q E
/-- the def f stands at its place, with np parameters, and does what cf says -/
def FnAt (P : Program) (w : World) (K : PySem.W.Frag) (mg : Str → Option Value) (base : Heap) (k : Nat) (f : Str) (np : Nat) (cf : List D → M D) : Prop :=
  ∃ (a : Addr) (fd : FuncData) (ps : List Str), mg f = some (.ref a) ∧ PySem.W.keepIn K (.ref a) = true ∧ Binds K fd ps [] ∧ ps.length = np ∧ FnOk P w K mg base (L2.CX P w) k a fd ps (spF K mg np cf)
section
variable {X : Cx} {K : PySem.W.Frag} {mg : Str → Option Value} {W : WX} {pos p : Pos} {e : Expr} {rest : List Expr} {el : Env → M (List D)} {k np : Nat} {f : Str} {cf : List D → M D}
theorem sE_call (eK : X.K = K) (em : X.mg = mg) (F : FnAt X.prog X.w K mg X.base k f np cf) (hr : Room k X.A) (tk : Takes X W) (hg : Gl X f) (hl : LenIs el np) (hdb : (f == ("__debug__" : Str)) = false) (hst : ∀ z ∈ e :: rest, isStar z = false)
    (ha : PA X (e :: rest) (TAv K mg W el)) : PE X (.Call (.Name f p) (e :: rest) [] pos) (TEv K mg W fun ρ => M.bind (el ρ) cf) := by
  subst eK em
  obtain ⟨a, fd, ps, hm, hk, hb, _, F⟩ := F
  refine (pe_callS F hr hg hm hk hb (fun σ => passAt tk σ) ha hdb (star_of (hst e List.mem_cons_self)) (star_any fun z hz => hst z (List.mem_cons_of_mem _ hz))).less fun σ H Q h => ?_
  obtain ⟨A, ρ, S, eK, em, eH, g, r1, h⟩ := h
  refine ⟨A, ρ, S, eK, em, eH, g, r1, Rdg.bind h fun xs S1 vs B eq x1 g1 q1 h1 => ?_⟩
  exact ⟨by rw [q1.len]; exact hl _ _ _ _ eq, B, xs, S1, x1.K.trans eK, x1.mg.trans em, rfl, g1, q1, h1⟩
theorem sE_call0 (eK : X.K = K) (em : X.mg = mg) (F : FnAt X.prog X.w K mg X.base k f 0 cf) (hr : Room k X.A) (hg : Gl X f) (hdb : (f == ("__debug__" : Str)) = false) : PE X (.Call (.Name f p) [] [] pos) (TEv K mg W fun _ => M.nox (cf [])) := by
  subst eK em
  obtain ⟨a, fd, ps, hm, hk, hb, _, F⟩ := F
  refine (pe_call0 F hr hg hm hk hb .nil passL hdb).less fun σ H Q h => ?_
  obtain ⟨A, ρ, S, eK, em, eH, g, r1, h⟩ := h
  refine ⟨rfl, A, [], S, eK, em, eH, g, rfl, ?_⟩
  have h : Post Rel A ((cf [] S).nox) Q (fun c d H' => W c d σ H') := h
  cases e : cf [] S with
  | ok d S' => rw [e] at h; exact h
  | exc x S' => rw [e] at h; exact h.elim
  | bad => rw [e] at h; exact h
end

/-! ### statements -/
inductive Fl where
  | nx (ρ : Env)
  | rt (d : D)
def PostS (A : At) (r : R Fl) (D : Ends) (W : XK) : Prop := match r with
  | .ok (.nx ρ') S => ∀ (σ' : L2.St) (B : At), Ext A B → Gd B S → EnvR B ρ' σ' → D.nx σ' B.H
  | .ok (.rt d) S => ∀ (v : V) (B : At), Ext A B → Gd B S → Rel B d v → D.rt v B.H
  | .exc x S => ∀ B : At, Ext A B → Gd B S → ∃ C, A.mg x = some (.ref C) ∧ W (.ref C) none B.H
  | .bad => False
theorem PostS.ext {A B : At} {r : R Fl} {D : Ends} {W : XK} (x : Ext A B) (h : PostS A r D W) : PostS B r D W := by
  cases r with
  | ok f S =>
    cases f with
    | nx ρ => exact fun σ' C y g k => h σ' C (x.trans y) g k
    | rt d => exact fun v C y g k => h v C (x.trans y) g k
  | exc e S =>
    intro C y g
    obtain ⟨c, h1, h2⟩ := h C (x.trans y) g
    exact ⟨c, by rw [x.mg]; exact h1, h2⟩
  | bad => exact h
def TSv (K : PySem.W.Frag) (mg : Str → Option Value) (W : XK) (ex : Env → M Fl) : TS := fun D σ H =>
  ∃ (A : At) (ρ : Env) (S : Store), A.K = K ∧ A.mg = mg ∧ A.H = H ∧ Gd A S ∧ EnvR A ρ σ ∧ PostS A (ex ρ S) D W
/-- an expression ahead of the rest of a statement -/
theorem PostS.bind {α β : Type} {rel : At → α → β → Prop} {W : XK} {A : At} {S : Store} {m : M α} {f : α → M Fl} {D : Ends} {Q' : β → Hp → Prop}
    (h : PostS A ((m S).bind f) D W)
    (k : ∀ a S1 v B, m S = .ok a S1 → Ext A B → Gd B S1 → rel B a v → PostS B (f a S1) D W → Q' v B.H) : Post rel A (m S) Q' W := by
  cases e : m S with
  | ok a S1 =>
    rw [e] at h
    exact fun v B x g r => k a S1 v B e x g r (PostS.ext x h)
  | exc x S1 => rw [e] at h; exact h
  | bad => rw [e] at h; exact h
abbrev WS (E : XK) : WX := fun c d _ H => E c d H
def xPass : Env → M Fl := fun ρ => M.pure (.nx ρ)
def xSeq (a b : Env → M Fl) : Env → M Fl := fun ρ => M.bind (a ρ) fun f => match f with
  | .nx ρ' => b ρ'
  | .rt d => M.pure (.rt d)
def xSet (i : Nat) (e : Env → M D) : Env → M Fl := fun ρ => M.bind (e ρ) fun d => M.pure (.nx (ρ.set i (some d)))
def xAsg (tg : LT) (e : Env → M D) : Env → M Fl := fun ρ => M.bind (e ρ) fun d => match asgT tg d ρ with
  | some ρ' => M.pure (.nx ρ')
  | none => M.bad
def xEx (e : Env → M D) : Env → M Fl := fun ρ => M.bind (e ρ) fun _ => M.pure (.nx ρ)
def xRet (e : Env → M D) : Env → M Fl := fun ρ => M.bind (e ρ) fun d => M.pure (.rt d)
def xIf (c : Env → M D) (a b : Env → M Fl) : Env → M Fl := fun ρ => M.bind (asBl c ρ) fun t => if t = true then a ρ else b ρ
def xRaise (x : Str) : Env → M Fl := fun _ S => .exc x S
section
variable {X : Cx} {K : PySem.W.Frag} {mg : Str → Option Value} {E : XK} {pos p : Pos} {e : Expr} {ee : Env → M D} {st : Stmt} {sts : List Stmt} {xa xb : Env → M Fl}
theorem sS_nil : PSs X [] (TSv K mg E xPass) := pss_nil.less fun D σ H h => by
  obtain ⟨A, ρ, S, eK, em, rfl, g, r, h⟩ := h
  exact h σ A (Ext.refl A) g r
theorem sS_pass : PS X (.Pass pos) (TSv K mg E xPass) := ps_pass.less fun D σ H h => by
  obtain ⟨A, ρ, S, eK, em, rfl, g, r, h⟩ := h
  exact h σ A (Ext.refl A) g r
theorem sS_cons (h1 : PS X st (TSv K mg E xa)) (h2 : PSs X sts (TSv K mg E xb)) : PSs X (st :: sts) (TSv K mg E (xSeq xa xb)) :=
  (pss_cons h1 h2).less fun D σ H h => by
    obtain ⟨A, ρ, S, eK, em, eH, g, r, h⟩ := h
    refine ⟨A, ρ, S, eK, em, eH, g, r, ?_⟩
    have h : PostS A ((xa ρ S).bind fun f => match f with
      | .nx ρ' => xb ρ'
      | .rt d => M.pure (.rt d)) D E := h
    cases q : xa ρ S with
    | ok f S1 =>
      rw [q] at h
      cases f with
      | nx ρ' => exact fun σ' B x g' r' => ⟨B, ρ', S1, x.K.trans eK, x.mg.trans em, rfl, g', r', PostS.ext x h⟩
      | rt d => exact h
    | exc x S1 => rw [q] at h; exact h
    | bad => rw [q] at h; exact h
theorem sS_one (h1 : PS X st (TSv K mg E xa)) : PSs X [st] (TSv K mg E xa) := pss_one h1
theorem notLc_swaps {t : Option Expr} {l : Nat} {env : PySem.Env} (h : (match e with | .ListComp .. => false | .SetComp .. => false | .DictComp .. => false | _ => true) = true) : swapsWith e t l env = pure false := by
  cases e <;> first | rfl | cases h
theorem sS_set {i : Nat} {x : Str} (hN : X.N.Nodup) (hi : X.N[i]? = some x) (hx : Loc X.env.scope x) (he : PE X e (TEv K mg (WS E) ee)) (hs : swapsWith e (some (.Name x p)) pos.line X.env = pure false) (hf : X.fn x = true ∨ X.env.scope.names.lookup x = some .local) :
    PS X (.Assign [.Name x p] e pos) (TSv K mg E (xSet i ee)) :=
  (ps_set hN hi hx he hs hf).less fun D σ H h => by
    obtain ⟨A, ρ, S, eK, em, eH, g, r, h⟩ := h
    refine ⟨A, ρ, S, eK, em, eH, g, r, PostS.bind h fun d S1 v B _ x1 g1 q1 h1 => ?_⟩
    exact h1 _ B (Ext.refl B) g1 ((r.step (x1.step g)).set q1)
theorem sS_ret (he : PE X e (TEv K mg (WS E) ee)) : PS X (.Return (some e) pos) (TSv K mg E (xRet ee)) :=
  (ps_ret he).less fun D σ H h => by
    obtain ⟨A, ρ, S, eK, em, eH, g, r, h⟩ := h
    refine ⟨A, ρ, S, eK, em, eH, g, r, PostS.bind h fun d S1 v B _ x1 g1 q1 h1 => ?_⟩
    exact h1 v B (Ext.refl B) g1 q1
theorem sS_expr (he : PE X e (TEv K mg (WS E) ee)) (hs : swapsWith e none pos.line X.env = pure false) : PS X (.Expr e pos) (TSv K mg E (xEx ee)) :=
  (ps_expr he hs).less fun D σ H h => by
    obtain ⟨A, ρ, S, eK, em, eH, g, r, h⟩ := h
    refine ⟨A, ρ, S, eK, em, eH, g, r, PostS.bind h fun d S1 v B _ x1 g1 q1 h1 => ?_⟩
    exact h1 σ B (Ext.refl B) g1 (r.step (x1.step g))
theorem sS_if {c : Expr} {a b : List Stmt} {ec : Env → M D} (hc : PT X c (TTv K mg (WS E) (asBl ec))) (ha : PSs X a (TSv K mg E xa)) (hb : PSs X b (TSv K mg E xb)) : PS X (.If c a b pos) (TSv K mg E (xIf ec xa xb)) :=
  (ps_if hc ha hb).less fun D σ H h => by
    obtain ⟨A, ρ, S, eK, em, eH, g, r, h⟩ := h
    refine ⟨A, ρ, S, eK, em, eH, g, r, PostS.bind h fun t S1 v B _ x1 g1 q1 h1 => ?_⟩
    subst q1
    cases v with
    | true => exact ⟨B, ρ, S1, x1.K.trans eK, x1.mg.trans em, rfl, g1, r.step (x1.step g), h1⟩
    | false => exact ⟨B, ρ, S1, x1.K.trans eK, x1.mg.trans em, rfl, g1, r.step (x1.step g), h1⟩
/-- a, b = e -/
theorem sS_asg {tgE : Expr} {tg : LT} (he : PE X e (TEv K mg (WS E) ee)) (hg : PG X tgE (TGv K mg tg)) (hs : swapsWithSole [tgE] e pos.line X.env = pure false) (hw : swappedStores [tgE] e X.env = pure none) (h1 : (assignEach [tgE] X.env).map (·.2) = [assign tgE X.env]) :
    PS X (.Assign [tgE] e pos) (TSv K mg E (xAsg tg ee)) :=
  (ps_asg he hg hs hw h1).less fun D σ H h => by
    obtain ⟨A, ρ, S, eK, em, eH, g, r, h⟩ := h
    refine ⟨A, ρ, S, eK, em, eH, g, r, PostS.bind h fun d S1 v B _ x1 g1 q1 h1 => ?_⟩
    cases ea : asgT tg d ρ with
    | none => rw [ea] at h1; exact h1.elim
    | some ρ' =>
      rw [ea] at h1
      exact ⟨B, ρ, ρ', S1, d, x1.K.trans eK, x1.mg.trans em, rfl, g1, r.step (x1.step g), q1, ea, fun σ' r' _ => h1 σ' B (Ext.refl B) g1 r'⟩
/-- what the written part says of an own exception's class -/
def ExcF (K : PySem.W.Frag) (mg : Str → Option Value) (x : Str) : Prop :=
  ∃ C, mg x = some (.ref C) ∧ PySem.W.excIn K C He.veBase "ValueError.__new__" = true ∧ PySem.W.keepIn K (.ref C) = true ∧ PySem.W.subIn K (.ref C) (.type "BaseException") = some true ∧ PySem.W.typeIn K (.ref C) = some (.type "type")
theorem sS_raise {x m : Str} {j : Nat} {p2 p3 : Pos} (eK : X.K = K) (em : X.mg = mg) (hc : X.calm = true) (tk : Takes X (WS E)) (hx : ExcF K mg x) (hg : Gl X x) (hdb : (x == ("__debug__" : Str)) = false) :
    PS X (.Raise (some (.Call (.Name x p) [.Constant (.str m) j p2] [] p3)) none pos) (TSv K mg E (xRaise x)) := by
  subst eK em
  obtain ⟨C, gC, q, kC, bC, tC⟩ := hx
  refine (ps_raise hc tk (pmk_own PySem.F.excBase_ValueError q gC kC (raises_own bC tC) hg hdb)).less fun D σ H h => ?_
  obtain ⟨A, ρ, S, eK, em, rfl, g, r, h⟩ := h
  obtain ⟨C', h1, h2⟩ := h A (Ext.refl A) g
  rw [em, gC] at h1
  cases h1
  exact h2
end
end LC

end
section
set_option maxHeartbeats 1000000
/-! LC13: loops, stores, cells. -/
namespace LC
open PySem PySem.Spec PyProof.Rows L2
/-! ### for, while -/
def forGo (s : Src) (tg : LT) (body : Env → M Fl) : Nat → Nat → Env → M Fl
  | 0, _, _ => M.bad
  | n + 1, i, ρ => fun S => match srcAt s S i with
    | none => .bad
    | some none => .ok (.nx ρ) S
    | some (some d) => match asgT tg d ρ with
      | none => .bad
      | some ρ1 => (body ρ1 S).bind fun f => match f with
        | .nx ρ2 => forGo s tg body n (i + 1) ρ2
        | .rt d => M.pure (.rt d)
def xFor (es : Env → M Src) (tg : LT) (body : Env → M Fl) : Env → M Fl := fun ρ => M.bind (es ρ) fun s => fun S => forGo s tg body (srcFuel s S) 0 ρ S
def whileGo (c : Env → M D) (body : Env → M Fl) : Nat → Env → M Fl
  | 0, _ => M.bad
  | n + 1, ρ => M.bind (asBl c ρ) fun t => if t = true then M.bind (body ρ) fun f => match f with
      | .nx ρ2 => whileGo c body n ρ2
      | .rt d => M.pure (.rt d)
    else M.pure (.nx ρ)
/-- more than any loop of ours turns: by the ints at hand -/
def wFuel : Env → Nat
  | [] => 1606938044258990275541962092341162602522202993782792835301376
  | some (.int i) :: r => i.natAbs + wFuel r
  | _ :: r => wFuel r
def xWhile (c : Env → M D) (body : Env → M Fl) : Env → M Fl := fun ρ => whileGo c body (wFuel ρ) ρ
section
variable {X : Cx} {K : PySem.W.Frag} {mg : Str → Option Value} {E : XK} {pos p : Pos} {e tgE iter c : Expr} {ee ec : Env → M D} {es : Env → M Src} {tg : LT} {body : List Stmt} {xb : Env → M Fl}
theorem sS_for (hp : PassesOwn (model X.prog X.w) X.A X.env X.xe) (hc : X.calm = true) (hi : PI X tgE iter (TIv K mg (WS E) es)) (hg : PG X tgE (TGv K mg tg)) (hb : PSs X body (TSv K mg E xb)) (hs : ∀ x, foldedSetIterable iter X.env x = pure x) :
    PS X (.For tgE iter body [] pos) (TSv K mg E (xFor es tg xb)) :=
  (ps_for hp hc hi hg hb hs).less fun D σ H h => by
    obtain ⟨A, ρ, S, eK, em, eH, g, r, h⟩ := h
    refine ⟨A, ρ, S, eK, em, eH, g, r, PostS.bind h fun s S1 J B _ x1 g1 q1 h1 => ?_⟩
    have eKB : B.K = K := x1.K.trans eK
    have emB : B.mg = mg := x1.mg.trans em
    refine ⟨fun i m σ' H' => ∃ (C : At) (ρ' : Env) (S' : Store), C.H = H' ∧ Ext B C ∧ Gd C S' ∧ EnvR C ρ' σ' ∧ PostS C (forGo s tg xb m i ρ' S') D E, ⟨srcFuel s S1, B, ρ, S1, rfl, Ext.refl B, g1, r.step (x1.step g), h1⟩, ?_⟩
    rintro i m σ' H' ⟨C, ρ', S', rfl, xc, gc, rc, hc2⟩
    cases m with
    | zero => exact hc2.elim
    | succ m =>
      have e2 : forGo s tg xb (m + 1) i ρ' S' = (match srcAt s S' i with
        | none => .bad
        | some none => .ok (.nx ρ') S'
        | some (some d) => match asgT tg d ρ' with
          | none => .bad
          | some ρ1 => (xb ρ1 S').bind fun f => match f with
            | .nx ρ2 => forGo s tg xb m (i + 1) ρ2
            | .rt d => M.pure (.rt d)) := rfl
      rw [e2] at hc2
      cases e : srcAt s S' i with
      | none => rw [e] at hc2; exact hc2.elim
      | some r' =>
        have hw := q1 C S' (xc.step g1) gc i r' e
        rw [e] at hc2
        cases r' with
        | none => exact .inl ⟨hw, hc2 σ' C (Ext.refl C) gc rc⟩
        | some d =>
          obtain ⟨_, hgo, hy⟩ := hw
          refine .inr ⟨hgo, _, fun σ H z => z, fun x H' y => ?_⟩
          obtain ⟨G, rfl, x2, g2, r2⟩ := hy x H' y
          have hc2 := PostS.ext x2 hc2
          simp only at hc2
          cases ea : asgT tg d ρ' with
          | none => rw [ea] at hc2; exact hc2.elim
          | some ρ1 =>
            rw [ea] at hc2
            refine ⟨G, ρ', ρ1, S', d, x2.K.trans (xc.K.trans eKB), x2.mg.trans (xc.mg.trans emB), rfl, g2, rc.step (x2.step gc), r2, ea, fun σ2 rσ _ => ?_⟩
            refine ⟨G, ρ1, S', x2.K.trans (xc.K.trans eKB), x2.mg.trans (xc.mg.trans emB), rfl, g2, rσ, ?_⟩
            have hc2 : PostS G ((xb ρ1 S').bind fun f => match f with
              | .nx ρ2 => forGo s tg xb m (i + 1) ρ2
              | .rt d => M.pure (.rt d)) D E := hc2
            cases q : xb ρ1 S' with
            | ok f S2 =>
              rw [q] at hc2
              cases f with
              | nx ρ2 => exact fun σ3 C3 x3 g3 r3 => ⟨m, Nat.lt_succ_self m, C3, ρ2, S2, rfl, (xc.trans x2).trans x3, g3, r3, PostS.ext x3 hc2⟩
              | rt d => exact hc2
            | exc x S2 => rw [q] at hc2; exact hc2
            | bad => rw [q] at hc2; exact hc2
theorem sS_while (hp : PassesOwn (model X.prog X.w) X.A X.env X.xe) (hc : PT X c (TTv K mg (WS E) (asBl ec))) (hb : PSs X body (TSv K mg E xb)) : PS X (.While c body [] pos) (TSv K mg E (xWhile ec xb)) :=
  (ps_while hp hc hb).less fun D σ H h => by
    obtain ⟨A, ρ, S, eK, em, rfl, g, r, h⟩ := h
    refine ⟨fun m σ' H' => ∃ (C : At) (ρ' : Env) (S' : Store), C.H = H' ∧ Ext A C ∧ Gd C S' ∧ EnvR C ρ' σ' ∧ PostS C (whileGo ec xb m ρ' S') D E, ⟨wFuel ρ, A, ρ, S, rfl, Ext.refl A, g, r, h⟩, ?_⟩
    rintro m σ' H' ⟨C, ρ', S', rfl, xc, gc, rc, hc2⟩
    cases m with
    | zero => exact hc2.elim
    | succ m =>
      refine ⟨C, ρ', S', xc.K.trans eK, xc.mg.trans em, rfl, gc, rc, PostS.bind (S := S') (m := asBl ec ρ') hc2 fun t S1 v B _ x1 g1 q1 h1 => ?_⟩
      subst q1
      cases v with
      | true =>
        rw [if_pos rfl]
        rw [if_pos rfl] at h1
        refine ⟨_, fun σ H z => z, B, ρ', S1, x1.K.trans (xc.K.trans eK), x1.mg.trans (xc.mg.trans em), rfl, g1, rc.step (x1.step gc), ?_⟩
        have h1 : PostS B ((xb ρ' S1).bind fun f => match f with
          | .nx ρ2 => whileGo ec xb m ρ2
          | .rt d => M.pure (.rt d)) D E := h1
        cases q : xb ρ' S1 with
        | ok f S2 =>
          rw [q] at h1
          cases f with
          | nx ρ2 => exact fun σ3 C3 x3 g3 r3 => ⟨m, Nat.lt_succ_self m, C3, ρ2, S2, rfl, (xc.trans x1).trans x3, g3, r3, PostS.ext x3 h1⟩
          | rt d => exact h1
        | exc x S2 => rw [q] at h1; exact h1
        | bad => rw [q] at h1; exact h1
      | false =>
        rw [if_neg Bool.false_ne_true]
        rw [if_neg Bool.false_ne_true] at h1
        exact h1 σ' B (Ext.refl B) g1 (rc.step (x1.step gc))
end

/-! ### cells -/
theorem snoc_get {α : Type} {l : List α} {a b : α} {k : Nat} (h : (l ++ [a])[k]? = some b) : l[k]? = some b ∨ (k = l.length ∧ b = a) := by
  rw [List.getElem?_append] at h
  split at h
  · exact .inl h
  · rename_i hk
    rw [List.getElem?_singleton] at h
    split at h
    · rename_i h0
      exact .inr ⟨by omega, (Option.some.inj h).symm⟩
    · cases h
theorem nd_snoc {l : List Addr} {p : Addr} (nd : ∀ (i j : Nat) (q : Addr), l[i]? = some q → l[j]? = some q → i = j) (hp : p ∉ l) (i j : Nat) (q : Addr) (h1 : (l ++ [p])[i]? = some q) (h2 : (l ++ [p])[j]? = some q) : i = j := by
  rcases snoc_get h1 with k1 | ⟨k1, e1⟩
  · rcases snoc_get h2 with k2 | ⟨k2, e2⟩
    · exact nd i j q k1 k2
    · exact absurd (by rw [← e2]; exact List.mem_iff_getElem?.mpr ⟨i, k1⟩) hp
  · rcases snoc_get h2 with k2 | ⟨k2, e2⟩
    · exact absurd (by rw [← e1]; exact List.mem_iff_getElem?.mpr ⟨j, k2⟩) hp
    · omega
/-- a new cell at p -/
def At.cell (A : At) (p : Addr) (o : HO) : At := { A with m := A.m ++ [p], H := upd A.H p o }
section
variable {A : At} {S : Store} {p : Addr}
theorem Ext.cell (o : HO) (n : A.H p = none) : Ext A (A.cell p o) where
  K := rfl
  mg := rfl
  E := rfl
  pre := fun i q h => by
    show (A.m ++ [p])[i]? = some q
    rw [List.getElem?_append_left (List.getElem?_eq_some_iff.mp h).1]
    exact h
  fresh := fun q h => by
    rcases List.mem_append.mp h with h | h
    · exact .inl h
    · exact .inr (by rw [List.mem_singleton.mp h]; exact n)
  keep := fun q u _ e => (upd_ne (ne_of_none e n)).trans e
theorem Gd.cell' {c : Cell} {o : HO} (g : Gd A S) (n : A.H p = none) (hc : CellR (A.cell p o) c (some o)) : Gd (A.cell p o) (S ++ [c]) where
  len := by
    show (A.m ++ [p]).length = _
    rw [List.length_append, List.length_append, g.len]
    rfl
  nd := fun i j q h1 h2 => nd_snoc g.nd (g.out n) i j q h1 h2
  ok := fun k c' q h1 h2 => by
    have x := Ext.cell o n
    have hl := g.len
    rcases snoc_get h1 with k1 | ⟨k1, rfl⟩
    · rcases snoc_get (show (A.m ++ [p])[k]? = some q from h2) with k2 | ⟨k2, rfl⟩
      · have hq : q ≠ p := fun z => g.out n (by rw [← z]; exact List.mem_iff_getElem?.mpr ⟨k, k2⟩)
        show CellR _ _ (upd A.H p o q)
        rw [upd_ne hq]
        exact (g.ok k c' q k1 k2).step (x.step g)
      · have := (List.getElem?_eq_some_iff.mp k1).1
        omega
    · rcases snoc_get (show (A.m ++ [p])[k]? = some q from h2) with k2 | ⟨k2, rfl⟩
      · have := (List.getElem?_eq_some_iff.mp k2).1
        omega
      · show CellR _ _ (upd A.H q o q)
        rw [upd_same]
        exact hc
  noE := fun q h => by
    rcases List.mem_append.mp h with h | h
    · exact g.noE q h
    · rw [List.mem_singleton.mp h]
      exact g.outE n
  Es := fun q h => by
    show upd A.H p o q ≠ none
    by_cases hq : q = p
    · subst hq
      rw [upd_same]
      exact fun z => by cases z
    · rw [upd_ne hq]
      exact g.Es q h
/-- a cell changed -/
theorem Ext.write (o : HO) (h : p ∈ A.m) : Ext A (A.put p o) :=
  ⟨rfl, rfl, rfl, fun _ _ h => h, fun _ h => .inl h, fun q u hq e => (upd_ne fun z => hq (by rw [z]; exact h)).trans e⟩
theorem Gd.write {n : Nat} {c : Cell} {o : HO} (g : Gd A S) (hm : A.m[n]? = some p) (hc : CellR (A.put p o) c (some o)) : Gd (A.put p o) (S.set n c) where
  len := by rw [List.length_set]; exact g.len
  nd := g.nd
  ok := fun k c' q h1 h2 => by
    have hp : p ∈ A.m := List.mem_iff_getElem?.mpr ⟨n, hm⟩
    show CellR _ _ (upd A.H p o q)
    by_cases hk : n = k
    · subst hk
      have hl := g.len
      have hn : n < S.length := by
        have := (List.getElem?_eq_some_iff.mp hm).1
        omega
      rw [List.getElem?_set_self hn] at h1
      cases h1
      have e : q = p := Option.some.inj (h2.symm.trans hm)
      rw [e, upd_same]
      exact hc
    · rw [List.getElem?_set_ne hk] at h1
      have hq : q ≠ p := fun z => hk (g.nd n k p hm (by rw [← z]; exact h2))
      rw [upd_ne hq]
      exact (g.ok k c' q h1 h2).step ((Ext.write o hp).step g)
  noE := g.noE
  Es := fun q h => by
    show upd A.H p o q ≠ none
    by_cases hq : q = p
    · subst hq
      rw [upd_same]
      exact fun z => by cases z
    · rw [upd_ne hq]
      exact g.Es q h
end
end LC

end
section
set_option maxHeartbeats 1000000
/-! LC14: lists that are changed; stores of pairs; comprehensions given to a name. -/
namespace LC
open PySem PySem.Spec PyProof.Rows L2
def mkCell (ds : List D) : M D := fun S => .ok (.cell S.length) (S ++ [.lst ds])
theorem new_cell {A : At} {S : Store} {p : Addr} {ds : List D} {vs : List V} {Q : VK} {W : XK} (g : Gd A S) (r : RelL A ds vs) (hl : ds.length ≤ sizeLine) (h : Post Rel A (mkCell ds S) Q W) (n : A.H p = none) : Q (.ref p) (upd A.H p (.lst vs)) := by
  have x := Ext.cell (A := A) (p := p) (.lst vs) n
  refine h (.ref p) (A.cell p (.lst vs)) x (g.cell' n ⟨vs, rfl, hl, RelL.step (x.step g) ds vs r⟩) ⟨p, ?_, rfl⟩
  show (A.m ++ [p])[S.length]? = some p
  rw [← g.len, List.getElem?_append_right (Nat.le_refl _), Nat.sub_self]
  rfl
section
variable {X : Cx} {K : PySem.W.Frag} {mg : Str → Option Value} {W : WX} {pos p p2 : Pos} {a b e : Expr} {es rest : List Expr} {ea eb : Env → M D} {el : Env → M (List D)}
theorem sE_lstC {n : Nat} (hl : LenIs el n) (hn : n ≤ 1000) (h : PA X es (TAv K mg W el)) : PE X (.List es pos) (TEv K mg W fun ρ => M.bind (el ρ) mkCell) :=
  (pe_lst h).less fun σ H Q h => by
    obtain ⟨A, ρ, S, eK, em, eH, g, r1, h⟩ := h
    refine ⟨A, ρ, S, eK, em, eH, g, r1, Rdg.bind h fun xs S1 vs B eq x1 g1 q1 h1 => ?_⟩
    have e1 := hl _ _ _ _ eq
    have hz : xs.length ≤ sizeLine := by rw [e1, sizeLine_eq]; omega
    exact ⟨by rw [q1.len]; exact hz, fun p n => new_cell g1 q1 hz h1 n⟩
/-- a + b of two lists, as a new cell -/
def addC (ea eb : Env → M D) : Env → M D := fun ρ => M.bind (ea ρ) fun x => M.bind (eb ρ) fun y => fun S => match vw S x, vw S y with
  | .lst xs, .lst ys => if xs.length + ys.length ≤ line then mkCell (xs ++ ys) S else .bad
  | _, _ => .bad
theorem sE_addC (eK : X.K = K) (ha : PE X a (TEv K mg W ea)) (hb : PE X b (TEv K mg W eb)) : PE X (.BinOp a .Add b pos) (TEv K mg W (addC ea eb)) := by
  subst eK
  refine (pe_op op_catS ha hb).less fun σ H Q h => ?_
  obtain ⟨A, ρ, S, eK, em, eH, g, r1, h⟩ := h
  refine ⟨A, ρ, S, eK, em, eH, g, r1, Rdg.bind h fun x S1 v B _ x1 g1 q1 h1 => ?_⟩
  refine ⟨B, ρ, S1, x1.K.trans eK, x1.mg.trans em, rfl, g1, r1.step (x1.step g), Rdg.bind h1 fun y S2 w C _ x2 g2 q2 h2 => ?_⟩
  have eKC : C.K = X.K := x2.K.trans (x1.K.trans eK)
  have h2 : Post Rel C (match vw S2 x, vw S2 y with
    | .lst xs, .lst ys => if xs.length + ys.length ≤ line then mkCell (xs ++ ys) S2 else .bad
    | _, _ => .bad) Q (fun c d H' => W c d σ H') := h2
  have rx := vw_rel g2 (Rel.step (x2.step g1) _ _ q1)
  have ry := vw_rel g2 q2
  cases ex : vw S2 x with
  | lst xs =>
    cases ey : vw S2 y with
    | lst ys =>
      rw [ex, ey] at h2
      rw [ex] at rx
      rw [ey] at ry
      obtain ⟨p, vs, rfl, k1, k2, k3⟩ := rx
      obtain ⟨q, ws, rfl, l1, l2, l3⟩ := ry
      simp only at h2
      split at h2
      · rename_i hz
        rw [line_eq] at hz
        rw [eKC] at k1 l1
        exact ⟨p, q, vs, ws, rfl, rfl, k1, l1, by rw [k3.len, l3.len]; exact hz, fun r n => new_cell g2 (k3.append l3) (by rw [List.length_append]; exact hz) h2 n⟩
      · exact h2.elim
    | _ => rw [ex, ey] at h2; exact h2.elim
  | _ => rw [ex] at h2; exact h2.elim
/-- list(e), as a new cell -/
def listC (el : Env → M (List D)) : Env → M D := fun ρ => M.bind (el ρ) fun ds => fun S => match ds with
  | [x] => match vw S x with
    | .tup xs => mkCell xs S
    | .lst xs => mkCell xs S
    | _ => .bad
  | _ => .bad
theorem sE_listC {x : Str} (eK : X.K = K) (hg : Gl X x) (hm : X.mg x = none) (hv : bootBuiltins x = some (.type "list")) (hn : x ≠ "__name__") (hdb : (x == ("__debug__" : Str)) = false) (hst : ∀ z ∈ e :: es, isStar z = false) (ha : PA X (e :: es) (TAv K mg W el)) :
    PE X (.Call (.Name x p) (e :: es) [] pos) (TEv K mg W (listC el)) := by
  subst eK
  refine (pe_callTy call_list_of hg hm hv ha hn hdb (star_of (hst e List.mem_cons_self)) (star_any fun z hz => hst z (List.mem_cons_of_mem _ hz))).less fun σ H Q h => ?_
  obtain ⟨A, ρ, S, eK, em, eH, g, r1, h⟩ := h
  refine ⟨A, ρ, S, eK, em, eH, g, r1, Rdg.bind h fun ds S1 vs B eq x1 g1 q1 h1 => ?_⟩
  have eKB : B.K = X.K := x1.K.trans eK
  match ds, q1, h1 with
  | [], _, h1 => exact h1.elim
  | _ :: _ :: _, _, h1 => exact h1.elim
  | [x], q1, h1 =>
    obtain ⟨v, rfl, rv⟩ := q1.one'
    have r2 := vw_rel g1 rv
    have h1 : Post Rel B (match vw S1 x with
      | .tup xs => mkCell xs S1
      | .lst xs => mkCell xs S1
      | _ => .bad) Q (fun c d H' => W c d σ H') := h1
    cases q : vw S1 x with
    | tup xs =>
      rw [q] at h1 r2
      obtain ⟨p, ws, rfl, k1, k2, k3⟩ := r2
      exact ⟨p, ws, rfl, .inr (SqT.of k1), fun l n => new_cell g1 k3 k2 h1 n⟩
    | lst xs =>
      rw [q] at h1 r2
      obtain ⟨p, ws, rfl, k1, k2, k3⟩ := r2
      rw [eKB] at k1
      exact ⟨p, ws, rfl, .inl k1, fun l n => new_cell g1 k3 k2 h1 n⟩
    | _ => rw [q] at h1; exact h1.elim

/-! ### o[i] = e, over a list that stands in a cell -/
def storeAt (o i d : D) : M Unit := fun S => match o, i with
  | .cell n, .int k => match S[n]? with
    | some (.lst ys) => match ixN ys.length k with
      | some j => .ok () (S.set n (.lst (ys.set j d)))
      | none => .bad
    | _ => .bad
  | _, _ => .bad
def xStI (eo ei ee : Env → M D) : Env → M Fl := fun ρ => M.bind (ee ρ) fun d => M.bind (eo ρ) fun o => M.bind (ei ρ) fun i => M.bind (storeAt o i d) fun _ => M.pure (.nx ρ)
theorem RelL.set {A : At} {d : D} {v : V} (r : Rel A d v) : ∀ {ds : List D} {vs : List V} (j : Nat), RelL A ds vs → RelL A (ds.set j d) (vs.set j v)
  | [], _, _, h => by
    rw [show _ = [] from h]
    exact .nil
  | _ :: _, _, 0, h => by
    obtain ⟨w, q, rfl, h1, h2⟩ := h
    exact .cons r h2
  | _ :: _, _, j + 1, h => by
    obtain ⟨w, q, rfl, h1, h2⟩ := h
    exact .cons h1 (RelL.set r j h2)
theorem sS_stI {E : XK} {o i : Expr} {eo ei ee : Env → M D} (he : PE X e (TEv K mg (WS E) ee)) (ho : PE X o (TEv K mg (WS E) eo)) (hi : PE X i (TEv K mg (WS E) ei)) (hns : notSl i = true) (hs : swapsWithSole [.Subscript o i p] e pos.line X.env = pure false) (hw : swappedStores [.Subscript o i p] e X.env = pure none) :
    PS X (.Assign [.Subscript o i p] e pos) (TSv K mg E (xStI eo ei ee)) := by
  have hsub : ∀ v, assign (.Subscript o i p) X.env v = (do
      let ov ← holding [v] (eval o X.env)
      let iv ← holding [v, ov] (eval i X.env)
      standAt p
      holding [v, ov, iv] (setItem ov iv v)
      release [v, ov, iv] []) := fun v => by cases i <;> first | rfl | cases hns
  refine (ps_asg he (pg_sub ho hi set_list hsub) hs hw rfl).less fun D σ H h => ?_
  obtain ⟨A, ρ, S, eK, em, eH, g, r1, h⟩ := h
  refine ⟨A, ρ, S, eK, em, eH, g, r1, PostS.bind h fun d S1 v B _ x1 g1 q1 h1 => ?_⟩
  refine ⟨B, ρ, S1, x1.K.trans eK, x1.mg.trans em, rfl, g1, r1.step (x1.step g), PostS.bind h1 fun od S2 w C _ x2 g2 q2 h2 => ?_⟩
  refine ⟨C, ρ, S2, x2.K.trans (x1.K.trans eK), x2.mg.trans (x1.mg.trans em), rfl, g2, (r1.step (x1.step g)).step (x2.step g1), PostS.bind h2 fun id S3 u G _ x3 g3 q3 h3 => ?_⟩
  have rd := Rel.step ((x2.trans x3).step g1) _ _ q1
  have ro := Rel.step (x3.step g2) _ _ q2
  have rs := r1.step (((x1.trans x2).trans x3).step g)
  cases od with
  | cell n =>
    cases id with
    | int k =>
      obtain ⟨q, hq, rfl⟩ := ro
      have h3 : PostS G (((match S3[n]? with
        | some (.lst ys) => match ixN ys.length k with
          | some j => .ok () (S3.set n (.lst (ys.set j d)))
          | none => .bad
        | _ => .bad) : R Unit).bind fun _ => M.pure (.nx ρ)) D E := h3
      cases ec : S3[n]? with
      | none => rw [ec] at h3; exact h3.elim
      | some c =>
        rw [ec] at h3
        cases c with
        | lst ys =>
          simp only at h3
          obtain ⟨vs, e1, z, rl⟩ := g3.ok n _ q ec hq
          cases ej : ixN ys.length k with
          | none => rw [ej] at h3; exact h3.elim
          | some j =>
            rw [ej] at h3
            refine ⟨q, vs, k, j, rfl, q3, e1, by rw [rl.len]; exact ej, ?_⟩
            have hm : q ∈ G.m := List.mem_iff_getElem?.mpr ⟨n, hq⟩
            have xw := Ext.write (A := G) (.lst (vs.set j v)) hm
            exact h3 σ (G.put q (.lst (vs.set j v))) xw (g3.write hq ⟨_, rfl, by rw [List.length_set]; exact z, RelL.step (xw.step g3) _ _ (RelL.set rd j rl)⟩) (rs.step (xw.step g3))
        | _ => exact h3.elim
    | _ => exact h3.elim
  | _ => exact h3.elim
/-! ### a, b = x, y -/
theorem sS_par {E : XK} {i j : Nat} {x y : Str} {px py pt pt2 : Pos} {kt k2 : Nat} (hc : X.calm = true) (hN : X.N.Nodup) (hi : X.N[i]? = some x) (hj : X.N[j]? = some y) (hij : i ≠ j) (hx : X.env.scope.names.lookup x = some .local) (hy : X.env.scope.names.lookup y = some .local)
    (ha : PA X [a, b] (TAv K mg (WS E) el)) (hw : swappedStores [.Tuple [.Name x px, .Name y py] kt pt] (.Tuple [a, b] k2 pt2) X.env = pure (some [x, y])) : PS X (.Assign [.Tuple [.Name x px, .Name y py] kt pt] (.Tuple [a, b] k2 pt2) pos) (TSv K mg E (xAsg (.tp [i, j]) (disp .tup el))) :=
  (ps_par hc hN hi hj hij hx hy ha hw).less fun D σ H h => by
    obtain ⟨A, ρ, S, eK, em, eH, g, r1, h⟩ := h
    have h : PostS A (((el ρ S).bind fun ds => M.pure (LC.D.tup ds)).bind fun d => match asgT (.tp [i, j]) d ρ with
      | some ρ' => M.pure (.nx ρ')
      | none => M.bad) D E := h
    refine ⟨A, ρ, S, eK, em, eH, g, r1, ?_⟩
    cases q : el ρ S with
    | ok ds S1 =>
      rw [q] at h
      intro vs B x1 g1 q1
      have h := PostS.ext x1 h
      match ds, q1, h with
      | [], _, h => exact h.elim
      | [_], _, h => exact h.elim
      | _ :: _ :: _ :: _, _, h => exact h.elim
      | [d, d'], q1, h =>
        obtain ⟨v, w, rfl, r2, r3⟩ := q1.two'
        exact ⟨v, w, rfl, h _ B (Ext.refl B) g1 (((r1.step (x1.step g)).set r2).set r3)⟩
    | exc x S1 => rw [q] at h; exact h
    | bad => rw [q] at h; exact h
/-- the pair's own names are not plain: the pair is made, and unpacked -/
theorem sS_asgT {E : XK} {ts : List Expr} {is : List Nat} {k : Nat} {fn : Str → Bool} {ee : Env → M D} (eK : X.K = K) (hc : X.calm = true) (hN : X.N.Nodup) (hf : ∀ x, fn x = true → X.fn x = true) (h : namesOk X.N X.env.scope fn ts is = true) (he : PE X e (TEv K mg (WS E) ee))
    (hw : swappedStores [.Tuple ts k p] e X.env = pure none) (hs : swapsWithSole [.Tuple ts k p] e pos.line X.env = pure false) : PS X (.Assign [.Tuple ts k p] e pos) (TSv K mg E (xAsg (.tp is) ee)) :=
  sS_asg he (sG_tp hc hN hf h eK) hs hw rfl
end
/-! ### name = [..] -/
section
variable {X : Cx} {K : PySem.W.Frag} {mg : Str → Option Value} {E : XK} {pos spos py : Pos} {elt tgE iter : Expr} {ifs : List Expr} {scope : Scope} {own : List (Str × Nat)} {es : Env → M Src} {tg : LT} {ec : Option (Env → M D)} {ee : Env → M D} {i : Nat} {y : Str}
  {tg1E iter1 : Expr} {ifs1 : List Expr} {es1 : Env → M Src} {tg1 : LT} {ec1 : Option (Env → M D)}
theorem rd_set {te : TE} {ev : Env → M D} (h : ∀ σ H Q, TEv K mg (WS E) ev σ H Q → te σ H Q) (D : Ends) (σ : L2.St) (H : Hp) (q : TSv K mg E (xSet i ev) D σ H) : tAsg te (gName i) D σ H := by
  obtain ⟨A, ρ, S, eK, em, eH, g, r, q⟩ := q
  refine h σ H _ ⟨A, ρ, S, eK, em, eH, g, r, PostS.bind q fun d S1 v B _ x1 g1 q1 h1 => ?_⟩
  exact h1 _ B (Ext.refl B) g1 ((r.step (x1.step g)).set q1)
theorem sS_setLc {vs : List Nat} (hvs : vs = own.map (·.2)) (hsl : ∀ i ∈ tg.slots, i ∈ vs) (hc : X.calm = true) (hN : X.N.Nodup) (hy : X.N[i]? = some y) (hyl : X.env.scope.names.lookup y = some .local)
    (hsw : swapsWith (.ListComp elt [⟨tgE, iter, ifs, 0⟩] scope pos) (some (.Name y py)) spos.line X.env = pure true) (hi : PI X tgE iter (TIv K mg (WS E) es)) (ok : BlkOk X.N X.env.scope scope own)
    (hg : ∀ (s : Shared) (H : Hp) (C : Addr) (cl : List (Str × Addr)) (fp : List Addr), PG (X.blk s H scope (compEnvC scope cl C X.env) fp) tgE (TGv K mg tg))
    (ht : ∀ (s : Shared) (H : Hp) (C : Addr) (cl : List (Str × Addr)) (fp : List Addr), PTs (X.blk s H scope (compEnvC scope cl C X.env) fp) ifs (TTo K mg ec))
    (he : ∀ (s : Shared) (H : Hp) (C : Addr) (cl : List (Str × Addr)) (fp : List Addr), PE (X.blk s H scope (compEnvC scope cl C X.env) fp) elt (TEv K mg W0 ee)) (hs : ∀ x, foldedSetIterable iter X.env x = pure x) :
    PS X (.Assign [.Name y py] (.ListComp elt [⟨tgE, iter, ifs, 0⟩] scope pos) spos) (TSv K mg E (xSet i (lcM vs es tg ec ee))) := by
  subst hvs
  exact (ps_setLc hc hN hy hyl hsw hi ok hg ht he hs).less fun D σ H h => rd_set (fun σ H Q q => rd_lc hsl q) D σ H h
theorem sS_setLc2 {vs vs1 : List Nat} (hvs : vs = own.map (·.2)) (hv : ∀ i ∈ vs1, i ∈ own.map (·.2)) (hsl : ∀ i ∈ tg.slots, i ∈ vs) (hsl1 : ∀ i ∈ tg1.slots, i ∈ vs1) (hc : X.calm = true) (hN : X.N.Nodup) (hy : X.N[i]? = some y) (hyl : X.env.scope.names.lookup y = some .local)
    (hsw : swapsWith (.ListComp elt [⟨tgE, iter, ifs, 0⟩, ⟨tg1E, iter1, ifs1, 0⟩] scope pos) (some (.Name y py)) spos.line X.env = pure true) (hi : PI X tgE iter (TIv K mg (WS E) es)) (ok : BlkOk X.N X.env.scope scope own)
    (hg : ∀ (s : Shared) (H : Hp) (C : Addr) (cl : List (Str × Addr)) (fp : List Addr), PG (X.blk s H scope (compEnvC scope cl C X.env) fp) tgE (TGv K mg tg))
    (ht : ∀ (s : Shared) (H : Hp) (C : Addr) (cl : List (Str × Addr)) (fp : List Addr), PTs (X.blk s H scope (compEnvC scope cl C X.env) fp) ifs (TTo K mg ec))
    (hi1 : ∀ (s : Shared) (H : Hp) (C : Addr) (cl : List (Str × Addr)) (fp : List Addr), PI (X.blk s H scope (compEnvC scope cl C X.env) fp) tg1E iter1 (TIv K mg W0 es1))
    (hg1 : ∀ (s : Shared) (H : Hp) (C : Addr) (cl : List (Str × Addr)) (fp : List Addr), PG (X.blk s H scope (compEnvC scope cl C X.env) fp) tg1E (TGv K mg tg1))
    (ht1 : ∀ (s : Shared) (H : Hp) (C : Addr) (cl : List (Str × Addr)) (fp : List Addr), PTs (X.blk s H scope (compEnvC scope cl C X.env) fp) ifs1 (TTo K mg ec1))
    (he : ∀ (s : Shared) (H : Hp) (C : Addr) (cl : List (Str × Addr)) (fp : List Addr), PE (X.blk s H scope (compEnvC scope cl C X.env) fp) elt (TEv K mg W0 ee)) (hs : ∀ x, foldedSetIterable iter X.env x = pure x) (hs1 : ∀ env x, foldedSetIterable iter1 env x = pure x) :
    PS X (.Assign [.Name y py] (.ListComp elt [⟨tgE, iter, ifs, 0⟩, ⟨tg1E, iter1, ifs1, 0⟩] scope pos) spos) (TSv K mg E (xSet i (lc2M vs vs1 es tg ec es1 tg1 ec1 ee))) := by
  subst hvs
  exact (ps_setLc2 hc hN hy hyl hsw hi ok hv hg ht hi1 hg1 ht1 he hs hs1).less fun D σ H h => rd_set (fun σ H Q q => rd_lc2 hsl hsl1 q) D σ H h
/-- the name is a cell, or a comprehension's own: an ordinary store -/
theorem swaps_cell {gs : List Comprehension} (hk : X.env.scope.names.lookup y ≠ some .local) {l : Nat} : swapsWith (.ListComp elt gs scope pos) (some (.Name y py)) l X.env = pure false := by
  unfold swapsWith
  have e : (X.env.kindOf y == some .local) = false := beq_eq_false_iff_ne.mpr hk
  simp only [e]
  simp
end
/-! ### which pairs are stored from the right -/
theorem blockFn {env : PySem.Env} (hk : env.scope.kind = .function) : env.blockKind = .function := by
  unfold PySem.Env.blockKind
  rw [hk]
  rfl
def swNames (sc : Scope) (line : Nat) (ts : List Expr) : List Str := ts.filterMap fun
  | .Name id pos => if sc.names.lookup id == some .local && pos.line == line then some id else none
  | _ => none
def headLine (ts : List Expr) : Nat := (ts.head?.map (·.pos.line)).getD 0
theorem ite_both {α : Type} {c : Prop} [Decidable c] {a b x : α} (ha : a = x) (hb : b = x) : (if c then a else b) = x := by
  split <;> assumption
/-- the pair is made -/
def swNo (sc : Scope) (ts vs : List Expr) : Bool := !(ts.length == 2 || ts.length == 3) || vs.length != ts.length || (swNames sc (headLine ts) ts).length != ts.length || vs.all (foldedForSure 8)
theorem swapped_no {env : PySem.Env} {ts vs : List Expr} {k k2 : Nat} {p p2 : Pos} (hk : env.scope.kind = .function) (hv : vs.all (fun e => !isStar e) = true) (h : swNo env.scope ts vs = true) : swappedStores [.Tuple ts k p] (.Tuple vs k2 p2) env = pure none := by
  have hb := blockFn hk
  have hst : (vs.any fun | .Starred .. => true | _ => false) = false := by
    rw [List.any_eq_false]
    intro e he
    have := List.all_eq_true.mp hv e he
    cases e <;> simp_all [isStar]
  have hkk : ∀ id, env.kindOf id = env.scope.names.lookup id := fun _ => rfl
  unfold swappedStores
  dsimp only
  rw [hb]
  by_cases h1 : (!(ts.length == 2 || ts.length == 3) || vs.length != ts.length) = true
  · rw [if_pos (by rw [h1]; rfl)]
  · have h1' : (!(ts.length == 2 || ts.length == 3) || vs.length != ts.length) = false := Bool.eq_false_iff.mpr h1
    have h' : ((!(ts.length == 2 || ts.length == 3) || vs.length != ts.length) || (swNames env.scope (headLine ts) ts).length != ts.length || vs.all (foldedForSure 8)) = true := h
    rw [h1', Bool.false_or] at h'
    rw [if_neg (by rw [h1']; decide)]
    refine (if_neg (Bool.eq_false_iff.mp hst)).trans ?_
    rcases Bool.or_eq_true_iff.mp h' with h2 | h2
    · exact if_pos (Bool.or_eq_true_iff.mpr (.inl h2))
    · exact ite_both rfl (if_pos h2)
/-- they are stored from the right -/
def swYes (sc : Scope) (ts vs : List Expr) : Bool := (ts.length == 2 || ts.length == 3) && (vs.length == ts.length && ((swNames sc (headLine ts) ts).length == ts.length && ((swNames sc (headLine ts) ts).eraseDups.length == (swNames sc (headLine ts) ts).length && (!vs.all (foldedForSure 8) && !vs.all (constantsAlone 8)))))
theorem swapped_yes {env : PySem.Env} {ts vs : List Expr} {k k2 : Nat} {p p2 : Pos} (hk : env.scope.kind = .function) (hv : vs.all (fun e => !isStar e) = true) (h : swYes env.scope ts vs = true) : swappedStores [.Tuple ts k p] (.Tuple vs k2 p2) env = pure (some (swNames env.scope (headLine ts) ts)) := by
  have hb := blockFn hk
  have hst : (vs.any fun | .Starred .. => true | _ => false) = false := by
    rw [List.any_eq_false]
    intro e he
    have := List.all_eq_true.mp hv e he
    cases e <;> simp_all [isStar]
  obtain ⟨a1, h⟩ := Bool.and_eq_true_iff.mp h
  obtain ⟨a2, h⟩ := Bool.and_eq_true_iff.mp h
  obtain ⟨a3, h⟩ := Bool.and_eq_true_iff.mp h
  obtain ⟨a4, h⟩ := Bool.and_eq_true_iff.mp h
  obtain ⟨a5, a6⟩ := Bool.and_eq_true_iff.mp h
  unfold swappedStores
  dsimp only
  rw [hb]
  have b2 : (vs.length != ts.length) = false := by rw [bne, a2]; rfl
  have b3 : ((swNames env.scope (headLine ts) ts).length != ts.length) = false := by rw [bne, a3]; rfl
  have b4 : ((swNames env.scope (headLine ts) ts).eraseDups.length != (swNames env.scope (headLine ts) ts).length) = false := by rw [bne, a4]; rfl
  have b5 : vs.all (foldedForSure 8) = false := by simpa using a5
  have b6 : vs.all (constantsAlone 8) = false := by simpa using a6
  rw [if_neg (by rw [a1, b2]; decide)]
  refine (if_neg (Bool.eq_false_iff.mp hst)).trans ?_
  refine (if_neg ?_).trans ?_
  · intro z
    rcases Bool.or_eq_true_iff.mp z with z | z
    · have z' : ((swNames env.scope (headLine ts) ts).length != ts.length) = true := z
      rw [b3] at z'
      cases z'
    · have z' : ((swNames env.scope (headLine ts) ts).eraseDups.length != (swNames env.scope (headLine ts) ts).length) = true := z
      rw [b4] at z'
      cases z'
  · rw [if_neg (by rw [b5]; decide), if_neg (by rw [b6]; decide)]
    rfl
end LC

end
section
set_option maxHeartbeats 2000000
/-! LX2: isinstance of a caught exception that is known; the head's Hook with more facts. -/
namespace LC
open PySem PySem.Spec PyProof.Rows L2
theorem band {a b : Bool} (h : (a && b) = true) : a = true ∧ b = true := Bool.and_eq_true_iff.mp h
/-- isinstance(e, c) of a known caught exception -/
def rIsT (K : PySem.W.Frag) : List V → Hp → VK → Prop := fun xs H Q => ∃ (a D : Addr) (c : V) (cv : Value) (b : Bool), xs = [.ref a, c] ∧ H a = some (ExT (.ref D) none a) ∧ ExcC K D ∧ (∀ u, RelV c u → u = cv) ∧ PySem.W.kitOne K (.ref D) cv = some b ∧ Q (.bl b) H
theorem call_isT {X : Cx} : CallR X (.builtin "isinstance") (rIsT X.K) := by
  intro pins s σ H xs us Q I r h
  obtain ⟨a, D, c, cv, b, rfl, hH, C, hcv, e, q⟩ := h
  match us, r with
  | [_, u], .cons rx (.cons rt .nil) =>
    cases rx
    have ec := hcv _ rt
    subst ec
    obtain ⟨⟨oe, vs, hget, hz, hv⟩, _⟩ := I.hok a _ hH
    have J : PySem.W.InstAt s.heap a oe D none := by
      obtain ⟨oc, od, oda, osl⟩ := oe
      obtain ⟨h1, h2⟩ := hz
      dsimp only at h1 h2 hv
      subst h1 h2 hv
      exact ⟨hget, rfl, rfl, trivial⟩
    exact PySem.W.kia_one (PySem.W.handS_kitx_exc C.hg C.hk C.hs C.hd C.ha C.hn C.ht C.hm) I.kIn J e (fun z => nomatch z) fun tk => ⟨.bl b, H, I.kept (t' := tk) fun _ _ z => z, rfl, q⟩
/-! ### the head's facts of own exceptions -/
def excB (K : PySem.W.Frag) (D : Addr) : Bool :=
  He.eqO (PySem.W.findIn K (.ref D) "__getattribute__") (some (some (.builtin "BaseException.__getattribute__"))) && (He.eqO (PySem.W.findIn K (.ref D) "__getattr__") (some none) && (decide (PySem.W.subIn K (.ref D) (.type "BaseException") = some true) &&
    (PySem.W.hasDictIn K D && (He.eqO (PySem.W.findIn K (.ref D) "__class__") (some (some (.builtin "object.__class__"))) && (He.eqO (PySem.W.specialIn K (.builtin "object.__class__") "__get__") (some (some (.builtin "getset_descriptor.__get__"))) &&
      (decide (PySem.W.takesIn K (.builtin "object.__class__") = some true) && decide (PySem.W.mroIn K D (.type "object") = some true)))))))
theorem excB_ok {K : PySem.W.Frag} {D : Addr} (h : excB K D = true) : ExcC K D := by
  obtain ⟨h1, h⟩ := band h
  obtain ⟨h2, h⟩ := band h
  obtain ⟨h3, h⟩ := band h
  obtain ⟨h4, h⟩ := band h
  obtain ⟨h5, h⟩ := band h
  obtain ⟨h6, h⟩ := band h
  obtain ⟨h7, h8⟩ := band h
  exact ⟨He.eqO_ok h1, He.eqO_ok h2, of_decide_eq_true h3, h4, He.eqO_ok h5, He.eqO_ok h6, of_decide_eq_true h7, of_decide_eq_true h8⟩
/-- raised ones, named ones, the one that is caught -/
def excsB (raised named : List Str) (top : Str) (K : PySem.W.Frag) : Bool := raised.all fun x => excB K (He.ga K x) && (decide (PySem.W.exmOne K (.ref (He.ga K x)) (.ref (He.ga K top)) = some true) && (decide (PySem.W.kitOne K (.ref (He.ga K x)) (.type "ValueError") = some true) &&
  named.all fun y => decide (PySem.W.kitOne K (.ref (He.ga K x)) (.ref (He.ga K y)) = some (x == y))))
def hookX (n : Nat) (ex : PySem.W.Frag → Bool) (fa : List He.Fa) (fn : List He.DefD) : PySem.W.Hook where
  α := Bool × He.AlD
  obs := fun s => (ex (He.frG s.heap.get? (He.asD s.heap.get? n)), He.obsDG n fa fn s.heap.get?)
  val := fun _ => (true, He.valD fn)
  says := fun _ h => ∃ K : PySem.W.Frag, K.In h ∧ ex K = true ∧ He.SaysD fa fn K
  of := fun _ _ e => ⟨_, He.frG_in, congrArg Prod.fst e, congrArg Prod.snd e⟩
  keeps := fun _ _ _ ⟨K, hK, c⟩ k => ⟨K, PySem.W.Frag.In.keeps hK k, c⟩
def obX (n : Nat) (ex : PySem.W.Frag → Bool) (fa : List He.Fa) (fn : List He.DefD) (g : Addr → Option Obj) : Bool × He.AlD := (ex (He.frG g (He.asD g n)), He.obsDG n fa fn g)
theorem obX_eq {n : Nat} {ex : PySem.W.Frag → Bool} {fa : List He.Fa} {fn : List He.DefD} {g : Addr → Option Obj} {s : Shared} (h : ∀ a, g a = s.heap.get? a) : obX n ex fa fn g = (hookX n ex fa fn).obs s := by
  have e : g = s.heap.get? := funext h
  subst e
  rfl
end LC

end
section
set_option maxHeartbeats 2000000
/-! LN1: try / except x as n: y = n; isinstance of what was caught; append, index, count. -/
namespace LC
open PySem PySem.Spec PyProof.Rows L2
/-- where a def's own statements stand -/
structure FunX (X : Cx) : Prop where
  hs : X.stack = X.env :: X.outer
  hf : X.env.frame = some X.env.locals
  hx : X.ex = []
/-- what is known of an own exception x: the class top catches it -/
def Caught (K : PySem.W.Frag) (mg : Str → Option Value) (top : Str) (x : Str) : Prop := ∃ C T, mg x = some (.ref C) ∧ mg top = some (.ref T) ∧ PySem.W.exmOne K (.ref C) (.ref T) = some true
/-- .. isinstance says of it -/
def Judged (K : PySem.W.Frag) (mg : Str → Option Value) (y : Str) (x : Str) : Prop := ∃ C T, mg x = some (.ref C) ∧ mg y = some (.ref T) ∧ ExcC K C ∧ PySem.W.kitOne K (.ref C) (.ref T) = some (x == y)
def JudgedV (K : PySem.W.Frag) (mg : Str → Option Value) (x : Str) : Prop := ∃ C, mg x = some (.ref C) ∧ ExcC K C ∧ PySem.W.kitOne K (.ref C) (.type "ValueError") = some true
def xTry (i : Nat) (rs : List Str) (n y : Nat) (ee : Env → M D) : Env → M Fl := fun ρ S => match ee ρ S with
  | .ok d S1 => .ok (.nx (ρ.set i (some d))) S1
  | .exc z S1 => if (rs.contains z && decide (n < ρ.length)) = true then .ok (.nx (((ρ.set n none).set y (some (.exc z))).set n none)) S1 else .bad
  | .bad => .bad
section
variable {X : Cx} {K : PySem.W.Frag} {mg : Str → Option Value} {E : XK} {W : WX} {pos pos' p1 p2 p3 p4 p5 p6 cpos apos np : Pos} {a b e o : Expr} {ee ea eo : Env → M D}
theorem EnvR.unset {A : At} {ρ : Env} {σ : L2.St} {i : Nat} {v : V} (h : EnvR A ρ σ) : EnvR A (ρ.set i none) (σ.set i (some v)) := by
  refine ⟨by rw [List.length_set, List.length_set]; exact h.1, fun j d e => ?_⟩
  by_cases hj : i = j
  · subst hj
    rw [List.getElem?_set] at e
    split at e
    · split at e <;> cases e
    · exact absurd rfl ‹_›
  · rw [List.getElem?_set_ne hj] at e
    rw [List.getElem?_set_ne hj]
    exact h.2 j d e
theorem EnvR.unset0 {A : At} {ρ : Env} {σ : L2.St} {i : Nat} (h : EnvR A ρ σ) : EnvR A (ρ.set i none) (σ.set i none) := by
  refine ⟨by rw [List.length_set, List.length_set]; exact h.1, fun j d e => ?_⟩
  by_cases hj : i = j
  · subst hj
    rw [List.getElem?_set] at e
    split at e
    · split at e <;> cases e
    · exact absurd rfl ‹_›
  · rw [List.getElem?_set_ne hj] at e
    rw [List.getElem?_set_ne hj]
    exact h.2 j d e
theorem sS_try {x x1 xn xy : Str} {i n y : Nat} {rs : List Str} (F : FunX X) (eK : X.K = K) (em : X.mg = mg) (hN : X.N.Nodup) (tk : Takes X (WS E))
    (hi : X.N[i]? = some x1) (hi2 : Loc X.env.scope x1) (hf1 : X.fn x1 = true ∨ X.env.scope.names.lookup x1 = some .local)
    (hn : X.N[n]? = some xn) (hn2 : X.env.scope.names.lookup xn = some .local) (hdn : (xn == ("__debug__" : Str)) = false) (hcn : (xn == ("__classdict__" : Str)) = false)
    (hy : X.N[y]? = some xy) (hy2 : Loc X.env.scope xy) (hfy : X.fn xy = true ∨ X.env.scope.names.lookup xy = some .local) (hny : n ≠ y)
    (hg : Gl X x) (hdb : (x == ("__debug__" : Str)) = false) (hrs : ∀ z ∈ rs, Caught K mg x z)
    (hsw : swapsWith e (some (.Name x1 p1)) p2.line X.env = pure false)
    (he : ∀ (W : WX) (qn : List (Addr × Obj)) (ye : Value → Shared → Prop), Takes (X.tr qn ye) W → PE (X.tr qn ye) e (TEv K mg W ee)) (hT : ∃ T, mg x = some (.ref T)) :
    PS X (.Try [.Assign [.Name x1 p1] e p2] [.ExceptHandler (some (.Name x np)) (some xn) [.Assign [.Name xy p3] (.Name xn p4) p5] pos'] [] [] pos) (TSv K mg E (xTry i rs n y ee)) := by
  obtain ⟨T, hT⟩ := hT
  subst eK em
  have hnm : Names X x (.ref T) := ⟨hg, hdb, .inl hT⟩
  have main := ps_try_keep (X := X) (x := x) (n := xn) (c := .ref T) (i := n) (np := np) (pos := pos) (pos' := pos') (Wout := WS E) (body := [.Assign [.Name x1 p1] e p2]) (suite := []) (b₀ := .Assign [.Name xy p3] (.Name xn p4) p5)
    (tb := fun W => tAsg (TEv X.K X.mg W ee) (gName i)) (ts := fun _ _ _ => tAsg (tVar n) (gName y)) F.hs F.hf F.hx hN hn hn2 hnm tk
    (fun W qn ye tkW _ => pss_one (ps_set (X := X.tr qn ye) hN hi hi2 (he W qn ye tkW) hsw hf1))
    (fun a oe cls d qn _ _ => pss_one (ps_set (X := X.suite a ((a, oe) :: qn)) hN hy hy2 (pe_var (X := X.suite a ((a, oe) :: qn)) hn (.inl hn2) hdn hcn) rfl hfy))
  refine main.less fun D σ H h => ?_
  obtain ⟨A, ρ, S, eK, em, eH, g, r, h⟩ := h
  refine ⟨A, ρ, S, eK, em, eH, g, r, ?_⟩
  have h : PostS A (match ee ρ S with
    | .ok d S1 => .ok (.nx (ρ.set i (some d))) S1
    | .exc z S1 => if (rs.contains z && decide (n < ρ.length)) = true then .ok (.nx (((ρ.set n none).set y (some (.exc z))).set n none)) S1 else .bad
    | .bad => .bad) D E := h
  cases q : ee ρ S with
  | ok d S1 =>
    rw [q] at h
    intro v B x1 g1 r1
    exact h _ B x1 g1 ((r.step (x1.step g)).set r1)
  | bad => rw [q] at h; exact h
  | exc z S1 =>
    rw [q] at h
    intro B x1 g1
    by_cases hz : (rs.contains z && decide (n < ρ.length)) = true
    · have h : PostS A (.ok (.nx (((ρ.set n none).set y (some (.exc z))).set n none)) S1) D E := by
        simp only [hz, if_true] at h
        exact h
      obtain ⟨hz1, hz2⟩ := band hz
      have hz2 := of_decide_eq_true hz2
      obtain ⟨C, T', hC, hT', hx⟩ := hrs z (by simpa using hz1)
      rw [hT] at hT'
      cases hT'
      refine ⟨C, by rw [em]; exact hC, true, hx, fun _ a na => ?_, fun z => by cases z⟩
      have hnl : n < σ.length := by rw [r.1]; exact hz2
      refine ⟨.ref a, List.getElem?_set_self hnl, ?_⟩
      have xp := Ext.put (A := B) (p := a) (ExT (.ref C) none a) na
      have gp := g1.put (p := a) (ExT (.ref C) none a) na
      have rp := (r.step (x1.step g)).step (xp.step g1)
      have rel : Rel (B.put a (ExT (.ref C) none a)) (.exc z) (.ref a) := ⟨a, C, rfl, (show B.mg z = _ by rw [x1.mg, em]; exact hC), upd_same⟩
      exact h _ (B.put a (ExT (.ref C) none a)) (x1.trans xp) gp ((rp.unset (i := n) (v := .ref a)).set rel).unset0
    · simp only [hz] at h
      exact (show False from h).elim
/-! ### isinstance -/
def fIsx (rs : List Str) (y : Str) : Store → List D → Option D
  | _, [.exc x, .fn z] => if (rs.contains x && decide (z = y)) = true then some (.bl (x == y)) else none
  | _, _ => none
def fIsv (rs : List Str) : Store → List D → Option D
  | _, [.exc x, .ty z] => if (rs.contains x && decide (z = "ValueError")) = true then some (.bl true) else none
  | _, _ => none
theorem relV_ref {p : Addr} {u : Value} (h : RelV (.ref p) u) : u = .ref p := by cases h; rfl
theorem relV_ty {n : String} {u : Value} (h : RelV (.ty n) u) : u = .type n := by cases h; rfl
theorem rd_isx {y : Str} {rs : List Str} {el : Env → M (List D)} (hrs : ∀ z ∈ rs, Judged K mg y z) {σ : L2.St} {H : Hp} {Q : VK} (h : TEv K mg W (callA (fIsx rs y) el) σ H Q) : tCB (rIsT K) (TAv K mg W el) σ H Q := by
  obtain ⟨A, ρ, S, eK, em, eH, g, r1, h⟩ := h
  refine ⟨A, ρ, S, eK, em, eH, g, r1, Rdg.bind h fun xs S1 vs B eq x1 g1 q1 h1 => ?_⟩
  have h1 : Post Rel B (M.opt (fIsx rs y S1 xs) S1) Q (fun c d H' => W c d σ H') := h1
  have key : ∀ d, fIsx rs y S1 xs = some d → ∃ x, xs = [.exc x, .fn y] ∧ x ∈ rs ∧ d = .bl (x == y) := by
    intro d e
    unfold fIsx at e
    split at e
    · split at e
      · rename_i hc
        obtain ⟨c1, c2⟩ := band hc
        have c2 := of_decide_eq_true c2
        subst c2
        cases e
        exact ⟨_, rfl, by simpa using c1, rfl⟩
      · cases e
    · cases e
  cases q : fIsx rs y S1 xs with
  | none => rw [q] at h1; exact h1.elim
  | some d =>
    rw [q] at h1
    obtain ⟨x, rfl, hx, rfl⟩ := key d q
    obtain ⟨v, u, rfl, k1, k2⟩ := q1.two'
    obtain ⟨C, T, hC, hT, hE, hk⟩ := hrs x hx
    obtain ⟨p, C', rfl, hC', hH⟩ := (show ∃ p C', v = .ref p ∧ B.mg x = some (.ref C') ∧ B.H p = some (L2.ExT (.ref C') none p) from k1)
    obtain ⟨t, hT', rfl⟩ := (show ∃ t, B.mg y = some (.ref t) ∧ u = .ref t from k2)
    have emB : B.mg = mg := x1.mg.trans em
    rw [emB] at hC' hT'
    rw [hC] at hC'
    cases hC'
    rw [hT] at hT'
    cases hT'
    exact ⟨p, C, .ref T, .ref T, x == y, rfl, hH, hE, fun u hu => relV_ref hu, hk, val_ok g1 h1 rfl⟩
theorem rd_isv {rs : List Str} {el : Env → M (List D)} (hrs : ∀ z ∈ rs, JudgedV K mg z) {σ : L2.St} {H : Hp} {Q : VK} (h : TEv K mg W (callA (fIsv rs) el) σ H Q) : tCB (rIsT K) (TAv K mg W el) σ H Q := by
  obtain ⟨A, ρ, S, eK, em, eH, g, r1, h⟩ := h
  refine ⟨A, ρ, S, eK, em, eH, g, r1, Rdg.bind h fun xs S1 vs B eq x1 g1 q1 h1 => ?_⟩
  have h1 : Post Rel B (M.opt (fIsv rs S1 xs) S1) Q (fun c d H' => W c d σ H') := h1
  have key : ∀ d, fIsv rs S1 xs = some d → ∃ x, xs = [.exc x, .ty "ValueError"] ∧ x ∈ rs ∧ d = .bl true := by
    intro d e
    unfold fIsv at e
    split at e
    · split at e
      · rename_i hc
        obtain ⟨c1, c2⟩ := band hc
        have c2 := of_decide_eq_true c2
        subst c2
        cases e
        exact ⟨_, rfl, by simpa using c1, rfl⟩
      · cases e
    · cases e
  cases q : fIsv rs S1 xs with
  | none => rw [q] at h1; exact h1.elim
  | some d =>
    rw [q] at h1
    obtain ⟨x, rfl, hx, rfl⟩ := key d q
    obtain ⟨v, u, rfl, k1, k2⟩ := q1.two'
    obtain ⟨C, hC, hE, hk⟩ := hrs x hx
    obtain ⟨p, C', rfl, hC', hH⟩ := (show ∃ p C', v = .ref p ∧ B.mg x = some (.ref C') ∧ B.H p = some (L2.ExT (.ref C') none p) from k1)
    have k2 : u = V.ty "ValueError" := k2
    subst k2
    have emB : B.mg = mg := x1.mg.trans em
    rw [emB] at hC'
    rw [hC] at hC'
    cases hC'
    exact ⟨p, C, .ty "ValueError", .type "ValueError", true, rfl, hH, hE, fun u hu => relV_ty hu, hk, val_ok g1 h1 rfl⟩
theorem sE_isx {y : Str} {rs : List Str} (eK : X.K = K) (em : X.mg = mg) (hg : Gl X "isinstance") (hm : X.mg "isinstance" = none) (hgy : Gl X y) (hdy : (y == ("__debug__" : Str)) = false) (hT : ∃ T, mg y = some (.ref T)) (hrs : ∀ z ∈ rs, Judged K mg y z) (hst : isStar a = false)
    (ha : PE X a (TEv K mg W ea)) : PE X (.Call (.Name "isinstance" p1) [a, .Name y p2] [] pos) (TEv K mg W (callA (fIsx rs y) (argsCons ea (argsCons (fun _ => M.pure (.fn y)) argsNil)))) := by
  subst eK em
  have h2 := sE_gfn (X := X) (K := X.K) (mg := X.mg) (W := W) (x := y) (pos := p2) hgy hT rfl hdy
  have hA := sA_cons hst ha (sA_cons (e := .Name y p2) rfl h2 sA_nil)
  exact (pe_callB (call_isT (X := X)) hg hm (by decide +kernel) hA (by decide) (by decide) (star_of hst) (star_any fun z hz => by simp at hz; subst hz; rfl)).less fun σ H Q h => rd_isx hrs h
theorem sE_isv {rs : List Str} (eK : X.K = K) (hg : Gl X "isinstance") (hm : X.mg "isinstance" = none) (hgy : Gl X "ValueError") (hmy : X.mg "ValueError" = none) (hrs : ∀ z ∈ rs, JudgedV K mg z) (hst : isStar a = false)
    (ha : PE X a (TEv K mg W ea)) : PE X (.Call (.Name "isinstance" p1) [a, .Name "ValueError" p2] [] pos) (TEv K mg W (callA (fIsv rs) (argsCons ea (argsCons (fun _ => M.pure (.ty "ValueError")) argsNil)))) := by
  subst eK
  have h2 := sE_ty (X := X) (K := X.K) (mg := mg) (W := W) (n := "ValueError") (pos := p2) hgy hmy (by decide +kernel) (by decide) (by decide)
  have hA := sA_cons hst ha (sA_cons (e := .Name "ValueError" p2) rfl h2 sA_nil)
  exact (pe_callB (call_isT (X := X)) hg hm (by decide +kernel) hA (by decide) (by decide) (star_of hst) (star_any fun z hz => by simp at hz; subst hz; rfl)).less fun σ H Q h => rd_isv hrs h
end
end LC

end
section
set_option maxHeartbeats 400000
/-! LN2: enumerate of a tuple. -/
namespace L2
open PySem PySem.Spec PyProof.Rows
set_option maxHeartbeats 1000000 in
theorem enum1_meets {v : Value} {o : Obj} {H : Heap → Prop} (B : Begins v o H) :
    Meets (Builtin.«enumerate.__new__» ⟨[.type "enumerate", v], []⟩) (fun _ R s => H s.heap ∧
      R (.ok (.ret (.ref (s.heap.push o).objs.size))) { s with heap := (s.heap.push o).push { cls := .type "enumerate", data := .fields #[.none, .bool false, .ref s.heap.objs.size, rawInt 0, .none, .none] } }) :=
  .of_wp fun prog w A R s h => by
    obtain ⟨hp, g, d, tk, os⟩ := s
    obtain ⟨h1, h⟩ := h
    have hsub := sub_enumerate
    have starts : ∀ {A' : Around} {E : Value → Shared → Prop} {Q : Value → Shared → Prop}, Q (.ref hp.objs.size) ⟨hp.push o, g, d, tk, os⟩ → wpAny (model prog w) A' (pyIter v) Q E ⟨hp, g, d, tk, os⟩ :=
      fun q => B.iter prog w _ _ ⟨hp, g, d, tk, os⟩ _ h1 q
    wp_walk
    refine wpAny_stack_any fun st => wpAny_pure ?_
    split
    · rename_i c _ _ _ _ _
      cases (c == Value.type "enumerate")
      · wp_walk using starts
        exact ⟨_, rfl, h⟩
      · wp_walk using starts
        exact ⟨_, rfl, h⟩
    · wp_walk using starts
      exact ⟨_, rfl, h⟩
section
variable {prog : Program} {w : World} {A : Around} {E : Value → Shared → Prop} {s : Shared}
theorem enum1_call {v : Value} {o : Obj} {H : Heap → Prop} {Q : Value → Shared → Prop} (B : Begins v o H) (h1 : H s.heap)
    (h : ∀ h', IsEnum h' (s.heap.objs.size + 1) s.heap.objs.size 0 .none → h'.get? s.heap.objs.size = some o → h'.objs.size = s.heap.objs.size + 2 →
      (∀ b u, s.heap.get? b = some u → h'.get? b = some u) → Q (.ref (s.heap.objs.size + 1)) { s with heap := h' }) :
    wpAny (model prog w) A (call (.type "enumerate") [v]) Q E s := by
  refine callType_new F.called_enumerate (by decide) (F.typeCall_enumerate_1 _) (F.newCall_enumerate_1 _) (fun obj => F.args_object_init_2 obj _) F.entry_enumerate_new (enum1_meets B) ⟨h1, ?_⟩
  have e1 : (s.heap.push o).objs.size = s.heap.objs.size + 1 := Heap.size_push ..
  show _ ∧ _
  rw [e1]
  have e2 : IsEnum ((s.heap.push o).push { cls := .type "enumerate", data := .fields #[.none, .bool false, .ref s.heap.objs.size, rawInt 0, .none, .none] }) (s.heap.objs.size + 1) s.heap.objs.size 0 .none := by
    have z := Heap.get?_push_size (s.heap.push o) (o := { cls := .type "enumerate", data := .fields #[.none, .bool false, .ref s.heap.objs.size, rawInt 0, .none, .none] }) rfl
    rw [e1] at z
    exact z
  exact ⟨⟨_, e2, rfl⟩, h _ e2 (Heap.get?_push_of_some _ (Heap.get?_push_size _ B.free)) (by rw [Heap.size_push, e1]) fun b u x => Heap.get?_push_of_some _ (Heap.get?_push_of_some _ x)⟩
end
/-- the tuple at a, each item in a new pair -/
def IteT (K : PySem.W.Frag) (a : Addr) (n : Nat) : It :=
  ⟨fun i H => ∃ (xs : List V) (x : V), SqT K H a xs ∧ xs.length = n ∧ xs[i]? = some x, fun i H v H' => ∃ T x, v = .ref T ∧ H T = none ∧ H' = upd H T (.tup [.int (i : Nat), x]) ∧ ∀ xs, SqT K H a xs → xs[i]? = some x, fun i H => ∃ xs : List V, SqT K H a xs ∧ xs.length = n ∧ n ≤ i⟩
theorem turn_enumT {P : Program} {w : World} {K : PySem.W.Frag} {elts : List Expr} {kk : Nat} {tpos : Pos} (a e it : Addr) (n : Nat) :
    Turn P w K (.Tuple elts kk tpos) (IteT K a n) [e, it] e (fun i h => (∃ old, IsEnum h e it ((i : Nat) : Int) old) ∧ h.IsTupleIter it a i ∧ e ≠ it ∧ a ≠ it ∧ a ≠ e ∧ i ≤ n) where
  mem := by simp
  obj := fun i h st b hb => by
    obtain ⟨⟨old, he⟩, ⟨o, ho, hc, hd⟩, _⟩ := st
    rcases (show b = e ∨ b = it by simpa using hb) with z | z
    · rw [z]; exact ⟨_, he, fun v q => nomatch q⟩
    · rw [z]; exact ⟨o, ho, fun v q => by rw [hd] at q; cases q⟩
  keep := fun i h h' st k => let ⟨⟨old, he⟩, hi, hne⟩ := st; ⟨⟨old, k e (by simp) _ he⟩, hi.at fun o q => k it (by simp) o q, hne⟩
  item := by
    intro X hP hw hK hc i pins s σ H E I hf st hg
    subst hP hw hK
    obtain ⟨⟨old, he⟩, hit, hne, hai, hae, hin⟩ := st
    obtain ⟨xs, x, hq, hxl, hx⟩ := hg
    obtain ⟨its, rv, p, hz⟩ := I.tuple hq
    obtain ⟨u, hu, ru⟩ := rv.get hx
    have sE : e < s.heap.objs.size := Heap.lt_size he
    have sI : it < s.heap.objs.size := by obtain ⟨_, q, _⟩ := hit; exact Heap.lt_size q
    have hlt : i < its.toArray.size := by simpa using (List.getElem?_eq_some_iff.mp hu).1
    refine wpAny_pyNext_enum_itemD (PySem.Draws.tuple (prog := X.prog) (w := X.w) (A := X.A.in1) (I.ok.hd hc) it a hai its.toArray) he ⟨hit, p⟩ hlt hne (by simp [hne, Ne.symm hae]) fun x' h' tk hP ho st' hT hsz hk => ?_
    obtain rfl : x' = u := by
      have q : its[i]? = some x' := by simpa using hP
      rw [hu] at q
      exact (Option.some.inj q).symm
    refine ⟨_, rfl, wpAny_letOwnedTupleGo_enum (s := { s with heap := h', toks := tk + 1 }) ho fun h'' he' sb => ?_⟩
    have hT2 : h''.get? s.heap.objs.size = some { cls := .type "tuple", data := .seq #[.int i tk, x'] } := (sb.2 _ (Nat.ne_of_gt sE)).trans hT
    have fresh : ObjOk X.prog X.w (upd H s.heap.objs.size (.tup [.int (i : Nat), x])) h'' s.heap.objs.size (.tup [.int (i : Nat), x]) :=
      ⟨(show 2 ≤ sizeLine by decide), [.int i tk, x'], .cons ⟨_, rfl⟩ (.cons ru .nil), ⟨_, hT2, rfl, _, rfl⟩⟩
    have I1 : Inv X pins σ (upd H s.heap.objs.size (.tup [.int (i : Nat), x])) { s with heap := h'', toks := tk + 1 } :=
      I.turnedNew (ch := [e, it]) (fun b ob hb q => (sb.2 b (fun z => hb (by simp [z]))).trans (hk b ob (fun z => hb (by simp [z])) (fun z => hb (by simp [z])) q)) hf (Nat.le_refl _) fresh
    refine ⟨.ref s.heap.objs.size, _, I1, rfl, ⟨_, x, rfl, I.hok.fresh (Nat.le_refl _), rfl, fun ys hy => ?_⟩, ⟨⟨x', ?_⟩, st'.1.at fun o q => (sb.2 it (Ne.symm hne)).trans q, hne, hai, hae, (by have := (List.getElem?_eq_some_iff.mp hx).1; omega)⟩, fun b hb => ?_⟩
    · rw [I.tuple_inj hy hq]
      exact hx
    · have e1 : ((i + 1 : Nat) : Int) = (i : Int) + 1 := by omega
      rw [e1]
      exact he'
    · have hb' : b < s.heap.objs.size := by
        rcases (show b = e ∨ b = it by simpa using hb) with z | z
        · rw [z]; exact sE
        · rw [z]; exact sI
      rw [upd_ne (Nat.ne_of_lt hb')]
      exact (hf b hb).1
  done := by
    intro X hP hw hK hc i pins s σ H E I hf st hg
    subst hP hw hK
    obtain ⟨⟨old, he⟩, hit, hne, hai, hae, hin⟩ := st
    obtain ⟨xs, hq, hxl, hx⟩ := hg
    obtain ⟨its, rv, p, hz⟩ := I.tuple hq
    obtain ⟨f0, f1, f2, f3, f4, f5⟩ := hf it (by simp)
    have hl := rv.length
    have hi : i = its.toArray.size := by
      rw [List.size_toArray]
      omega
    have dr := PySem.Draws.tuple (prog := X.prog) (w := X.w) (A := X.A.in1) (show X.A.in1.handled = none from I.ok.hd hc) it a hai its.toArray
    have st2 : s.heap.IsTupleIter it a its.toArray.size ∧ s.heap.IsTuple a its.toArray := ⟨hi ▸ hit, p⟩
    refine wpAny_pyNext_enum_endD dr he st2 fun h' eb => ?_
    have I9 : Inv X pins σ H { s with heap := h', toks := s.toks } := Inv.turned (it := it) (h' := h') (t' := s.toks) I eb f0 f1 f3 f4 f5
    exact ⟨rfl, I9⟩
  self := fun A i s Q E st h => let ⟨⟨_, he⟩, _⟩ := st; wpAny_pyIter_enum he h
def iEnumT (K : PySem.W.Frag) (ta : TA) : TI := fun σ H R => ta σ H fun vs H1 => ∃ a xs, vs = [.ref a] ∧ SqT K H1 a xs ∧ R (IteT K a xs.length) H1
theorem pi_enumT {X : Cx} {e : Expr} {ta : TA} {p pos tpos : Pos} {elts : List Expr} {kk : Nat} (hg : Gl X "enumerate") (hm : X.mg ("enumerate" : PySem.Str) = (none : Option Value)) (ha : PA X [e] ta) (hs : starEach [e] X.env = [(false, eval e X.env)]) :
    PI X (.Tuple elts kk tpos) (.Call (.Name "enumerate" p) [e] [] pos) (iEnumT X.K ta) := by
  refine ⟨fun pins s σ H R I h => ?_⟩
  refine Call_ (ld_blt I hg hm boot_enumerate (PyProof.Rows.callWith_type1 (thn (ha.run pos pins s σ H _ I h) fun us s1 ⟨vs, H1, I1, r1, q1⟩ => ?_) hs rfl))
  obtain ⟨a, xs, ev, hq, q⟩ := q1
  subst ev
  cases r1 with
  | cons r rr =>
  cases rr
  cases r
  obtain ⟨its, rv, p', hz⟩ := I1.tuple hq
  have sA : a < s1.heap.objs.size := p'.lt
  have hb : Begins (.ref a) { cls := .type "tuple_iterator", data := .fields #[.ref a, .int 0 0] } fun h => h.IsTuple a its.toArray := begins_tuple a its.toArray
  refine enum1_call hb p' fun h' he hit hsz hk => wpAny_pyIter_enum he ?_
  have I2 : Inv X pins σ H1 { s1 with heap := h' } := I1.kept (t' := s1.toks) hk
  have st0 : (fun i h => (∃ old, IsEnum h (s1.heap.objs.size + 1) s1.heap.objs.size ((i : Nat) : Int) old) ∧ h.IsTupleIter s1.heap.objs.size a i ∧ s1.heap.objs.size + 1 ≠ s1.heap.objs.size ∧ a ≠ s1.heap.objs.size ∧ a ≠ s1.heap.objs.size + 1 ∧ i ≤ xs.length) 0 h' :=
    ⟨⟨.none, he⟩, ⟨_, hit, rfl, rfl⟩, Nat.succ_ne_self _, Nat.ne_of_lt sA, Nat.ne_of_lt (Nat.lt_succ_of_lt sA), Nat.zero_le _⟩
  refine ⟨s1.heap.objs.size + 1, [s1.heap.objs.size + 1, s1.heap.objs.size], _, _, H1, rfl, I2, turn_enumT a (s1.heap.objs.size + 1) s1.heap.objs.size xs.length, st0, fun b hb => ?_, q⟩
  have hle : s1.heap.objs.size ≤ b := by
    rcases (show b = s1.heap.objs.size + 1 ∨ b = s1.heap.objs.size by simpa using hb) with z | z
    · rw [z]; exact Nat.le_succ _
    · rw [z]; exact Nat.le_refl _
  exact I1.fpOk hle (I1.hok.fresh hle)
end L2

end
section
set_option maxHeartbeats 1000000
/-! LN3: methods of lists: append, index, count. -/
namespace LC
open PySem PySem.Spec PyProof.Rows L2
/-- what may stand ahead of .name -/
def baseB : Expr → Bool
  | .Name .. => true
  | .Subscript .. => true
  | _ => false
theorem base_of {o : Expr} {x : Str} {env : PySem.Env} (h : baseB o = true) : attributeBase o x env (eval o env) = eval o env := by
  cases o <;> first | rfl | cases h
section
variable {X : Cx} {K : PySem.W.Frag} {mg : Str → Option Value} {E : XK} {W : WX} {pos apos cpos : Pos} {o e : Expr} {eo ee : Env → M D}
theorem few_of {env : PySem.Env} (h : isStar e = false) : ((backTo cpos (starEach [e] env)).all (fun x => !x.1) && (backToKw cpos (keywordEach [] env)).all (fun x => x.1.isSome) && decide ([e].length + ([] : List Keyword).length + (if ([] : List Keyword).isEmpty then 0 else 1) < 30)) = true := by
  rw [star_of h]
  rfl
/-! ### o.append(e) -/
def appAt (o d : D) : M Unit := fun S => match o with
  | .cell n => match S[n]? with
    | some (.lst ys) => if ys.length < line then .ok () (S.set n (.lst (ys ++ [d]))) else .bad
    | _ => .bad
  | _ => .bad
def lstAt (o : D) : M Unit := fun S => match o with
  | .cell n => match S[n]? with
    | some (.lst _) => .ok () S
    | _ => .bad
  | _ => .bad
def xApp (eo ee : Env → M D) : Env → M Fl := fun ρ => M.bind (eo ρ) fun o => M.bind (lstAt o) fun _ => M.bind (ee ρ) fun d => M.bind (appAt o d) fun _ => M.pure (.nx ρ)
theorem lstAt_ok {o : LC.D} {S S' : Store} {u : Unit} (h : lstAt o S = .ok u S') : S' = S ∧ ∃ n ys, o = .cell n ∧ S[n]? = some (.lst ys) := by
  unfold lstAt at h
  split at h
  · split at h
    · cases h; exact ⟨rfl, _, _, rfl, by assumption⟩
    · cases h
  · cases h
theorem appAt_ok {o d : LC.D} {S S' : Store} {u : Unit} (h : appAt o d S = .ok u S') : ∃ n ys, o = .cell n ∧ S[n]? = some (.lst ys) ∧ ys.length < line ∧ S' = S.set n (.lst (ys ++ [d])) := by
  unfold appAt at h
  split at h
  · split at h
    · split at h
      · cases h; exact ⟨_, _, rfl, by assumption, by assumption, rfl⟩
      · cases h
    · cases h
  · cases h
theorem lstAt_nx {o : LC.D} {S S' : Store} {x : Str} : lstAt o S ≠ .exc x S' := by
  intro h
  unfold lstAt at h
  split at h
  · split at h <;> cases h
  · cases h
theorem appAt_nx {o d : LC.D} {S S' : Store} {x : Str} : appAt o d S ≠ .exc x S' := by
  intro h
  unfold appAt at h
  split at h
  · split at h
    · split at h <;> cases h
    · cases h
  · cases h
theorem sS_app (eK : X.K = K) (hb : baseB o = true) (hl : (apos.endLine == cpos.line) = true) (hs : isStar e = false) (ho : PE X o (TEv K mg (WS E) eo)) (he : PE X e (TEv K mg (WS E) ee)) :
    PS X (.Expr (.Call (.Attribute o "append" apos) [e] [] cpos) pos) (TSv K mg E (xApp eo ee)) := by
  subst eK
  have h1 := pe_bm (X := X) (cpos := cpos) (apos := apos) PySem.F.plainAttrs_list PySem.F.slot_list_append PySem.F.type_list_append mt_append ho (pa_cons he pa_nil (star_of hs)) (base_of hb) (few_of hs) hl (star_of hs) (by simp [starEach, backTo])
  refine (ps_expr h1 rfl).less fun D σ H h => ?_
  obtain ⟨A, ρ, S, eK, em, eH, g, r, h⟩ := h
  refine ⟨A, ρ, S, eK, em, eH, g, r, PostS.bind h fun od S1 v B _ x1 g1 q1 h1 => ?_⟩
  have r1 := r.step (x1.step g)
  have hk : PostS B ((lstAt od S1).bind fun _ => M.bind (ee ρ) fun d => M.bind (appAt od d) fun _ => M.pure (.nx ρ)) D E := h1
  clear h1
  cases q : lstAt od S1 with
  | bad => rw [q] at hk; exact hk.elim
  | exc x S' => exact absurd q lstAt_nx
  | ok u S' =>
    rw [q] at hk
    obtain ⟨rfl, n, ys, rfl, hn⟩ := lstAt_ok q
    obtain ⟨p, hp, rfl⟩ := q1
    obtain ⟨vs, e1, z, rl⟩ := g1.ok n _ p hn hp
    have eKB : B.K = X.K := x1.K.trans eK
    refine ⟨.inl ⟨rfl, vs, SqL.of e1⟩, B, ρ, S', eKB, x1.mg.trans em, rfl, g1, r1, PostS.bind (show PostS B ((ee ρ S').bind fun d => M.bind (appAt (.cell n) d) fun _ => M.pure (.nx ρ)) D E from hk) fun d S2 w C _ x2 g2 q2 h2 => ?_⟩
    have hj : PostS C ((appAt (.cell n) d S2).bind fun _ => M.pure (.nx ρ)) D E := h2
    clear h2
    cases q3 : appAt (.cell n) d S2 with
    | bad => rw [q3] at hj; exact hj.elim
    | exc x S' => exact absurd q3 appAt_nx
    | ok u S3 =>
      rw [q3] at hj
      obtain ⟨n', zs, en, hz, hlz, rfl⟩ := appAt_ok q3
      cases en
      have hpC := x2.pre _ _ hp
      obtain ⟨us, e2, z2, rl2⟩ := g2.ok n _ p hz hpC
      have hm : p ∈ C.m := List.mem_iff_getElem?.mpr ⟨n, hpC⟩
      rw [line_eq] at hlz
      have hul : us.length < sizeLine := by rw [rl2.len]; exact hlz
      refine ⟨p, us, w, rfl, rfl, e2, hul, ?_⟩
      have xw := Ext.write (A := C) (.lst (us ++ [w])) hm
      have rl3 : RelL (C.put p (.lst (us ++ [w]))) (zs ++ [d]) (us ++ [w]) := RelL.append (RelL.step (xw.step g2) _ _ rl2) (RelL.one (Rel.step (xw.step g2) _ _ q2))
      exact hj σ (C.put p (.lst (us ++ [w]))) xw (g2.write hpC ⟨_, rfl, by rw [List.length_append]; exact hlz, rl3⟩) ((r1.step (x2.step g1)).step (xw.step g2))
end
end LC

end
section
set_option maxHeartbeats 1000000
/-! LN4: l.index(x), l.count(x) of lists of data. -/
namespace LC
open PySem PySem.Spec PyProof.Rows L2
section
variable {X : Cx}
def rCntD (K : PySem.W.Frag) : V → List V → Hp → VK → Prop := fun x xs H Q => ∃ (a : Addr) (y : V) (d : PyData) (ds : List PyData), x = V.ref a ∧ xs = [y] ∧ Dp K H (V.ref a) (.list ds) ∧ Dp K H y d ∧
  SeqAt.shaped (.list ds) = true ∧ SeqAt.shaped d = true ∧ Q (.int (ds.countP fun z => PyData.eqv z d : Nat)) H
theorem mt_countD (hu : X.A.units + 65 < cLine) : MtR X "list.count" (rCntD X.K) := by
  intro pins s σ H x xs v us Q I rx rxs h
  obtain ⟨a, y, d, ds, rfl, rfl, hl, hy, sl, sd, q⟩ := h
  cases rx
  match us, rxs with
  | [uy], .cons ry .nil =>
    obtain ⟨bs, rb⟩ := Dp.reads I d y uy hy ry
    have lay : PyData.canLayAll0 ds = true := SeqAt.canLay_of_shaped sl
    have room : X.A.units + 1 + min (PyData.depthAll ds) d.depth < cLine := room_in_shaped sd hu
    cases hl with
    | lst hs ha =>
      obtain ⟨its, rv, ⟨⟨cls, dd, data, sls⟩, n, ho, hc, hdn, hdt⟩, hlen⟩ := I.list hs
      dsimp only at hc hdt
      subst hc hdt
      obtain ⟨as, ra⟩ := Dp.readsAll I ds _ its ha rv
      have reads : its.map (SeqAt.readOf s.heap) = ds := SeqAt.readsAll_map ds its as lay ra
      refine call_meets PySem.F.slot_list_count ⟨_, ho, rfl⟩ PySem.F.entry_list_count (PySem.F.args_list_count_2 _ _)
        (SeqAt.list_countAt a its.toArray n dd sls uy (fun u => PyData.eqv (SeqAt.readOf s.heap u) d)) ⟨ho, SeqAt.items_eqAt (vs := its.toArray) (show ReadsAll s.heap its.toArray.toList ds as from ra) rb lay (SeqAt.canLay_of_shaped sd) room, ?_⟩
      have ec : its.toArray.toList.countP (fun u => PyData.eqv (SeqAt.readOf s.heap u) d) = ds.countP fun z => PyData.eqv z d := by
        rw [← reads, List.countP_map]
        rfl
      refine ⟨.int (ds.countP fun z => PyData.eqv z d : Nat), H, I.tok _, ⟨s.toks, ?_⟩, q⟩
      show Value.int ((its.toArray.toList.countP (fun u => PyData.eqv (SeqAt.readOf s.heap u) d) : Nat) : Int) s.toks = Value.int ((ds.countP fun z => PyData.eqv z d : Nat) : Int) s.toks
      rw [ec]
end
/-- the first place of an equal one -/
def placeD : List D → D → Option Nat
  | [], _ => none
  | x :: xs, d => if x.eqb d = true then some 0 else (placeD xs d).map (· + 1)
def cntD (xs : List D) (d : D) : Nat := xs.countP fun x => x.eqb d
inductive LM where
  | index | count
  deriving DecidableEq
def fLM : LM → List D → D → Option D
  | .index, xs, d => if (d.sh 60 && D.shA xs 58) = true then (placeD xs d).map fun n => .int (n : Nat) else none
  | .count, xs, d => if (d.sh 60 && D.shA xs 58) = true then some (.int (cntD xs d : Nat)) else none
def LM.nm : LM → String
  | .index => "index"
  | .count => "count"
def seeL (o : D) : M Unit := fun S => match vw S o with
  | .lst _ => .ok () S
  | _ => .bad
def lmM (m : LM) (eo ee : Env → M D) : Env → M D := fun ρ => M.bind (eo ρ) fun o => M.bind (seeL o) fun _ => M.bind (ee ρ) fun d => fun S => match vw S o with
  | .lst xs => M.opt (fLM m xs d) S
  | _ => .bad
theorem placeD_spec : ∀ {xs : List D} {d : D} {j : Nat}, placeD xs d = some j → ∃ z, (D.pdA xs)[j]? = some z ∧ PyData.eqv z d.pd = true ∧ ∀ (m : Nat) (z' : PyData), m < j → (D.pdA xs)[m]? = some z' → PyData.eqv z' d.pd = false
  | [], _, _, h => by cases h
  | x :: xs, d, j, h => by
    unfold placeD at h
    by_cases e : x.eqb d = true
    · rw [if_pos e] at h
      cases h
      exact ⟨x.pd, rfl, e, fun m z' hm => by omega⟩
    · rw [if_neg e] at h
      cases q : placeD xs d with
      | none => rw [q] at h; cases h
      | some k =>
        rw [q] at h
        cases h
        obtain ⟨z, h1, h2, h3⟩ := placeD_spec q
        refine ⟨z, h1, h2, fun m z' hm hz => ?_⟩
        cases m with
        | zero =>
          have hz : some x.pd = some z' := hz
          cases hz
          exact Bool.eq_false_iff.mpr e
        | succ m => exact h3 m z' (by have hm : m + 1 < k + 1 := hm; omega) hz
theorem cnt_pd (d : D) : ∀ xs : List D, (D.pdA xs).countP (fun z => PyData.eqv z d.pd) = cntD xs d
  | [] => rfl
  | x :: xs => by
    show (x.pd :: D.pdA xs).countP _ = _
    unfold cntD
    rw [List.countP_cons, List.countP_cons, cnt_pd d xs]
    rfl
section
variable {X : Cx} {K : PySem.W.Frag} {mg : Str → Option Value} {W : WX} {apos cpos : Pos} {o e : Expr} {eo ee : Env → M D}
def rLM (K : PySem.W.Frag) : LM → V → List V → Hp → VK → Prop
  | .index => rIndexD K
  | .count => rCntD K
theorem lm_sound {A : At} {S : Store} {m : LM} {ys : List D} {d res : D} {v w : V} {Q : VK} {W' : XK} (hv : RelR A (.lst ys) v) (hw : Rel A d w) (g : Gd A S) (e : fLM m ys d = some res) (h : Post Rel A (.ok res S) Q W') : rLM A.K m v [w] A.H Q := by
  cases m with
  | index =>
    have e : (if (d.sh 60 && D.shA ys 58) = true then (placeD ys d).map fun n => LC.D.int (n : Nat) else none) = some res := e
    split at e
    · rename_i hs
      obtain ⟨s1, s2⟩ := band hs
      obtain ⟨j, hj, rfl⟩ := Option.map_eq_some_iff.mp e
      obtain ⟨z, z1, z2, z3⟩ := placeD_spec hj
      have hp := hv.dp (shA_lst s2)
      obtain ⟨p, vs, rfl, _⟩ := (show ∃ p vs, v = .ref p ∧ SqL A.K A.H p vs ∧ ys.length ≤ sizeLine ∧ RelL A ys vs from hv)
      exact ⟨p, w, d.pd, D.pdA ys, j, z, rfl, rfl, hp, Rel.dp _ _ _ s1 hw, sh_shaped (shA_lst s2) (by decide), sh_shaped s1 (by decide), z1, z2, z3, val_ok g h rfl⟩
    · cases e
  | count =>
    have e : (if (d.sh 60 && D.shA ys 58) = true then some (LC.D.int (cntD ys d : Nat)) else none) = some res := e
    split at e
    · rename_i hs
      obtain ⟨s1, s2⟩ := band hs
      cases e
      have hp := hv.dp (shA_lst s2)
      obtain ⟨p, vs, rfl, _⟩ := (show ∃ p vs, v = .ref p ∧ SqL A.K A.H p vs ∧ ys.length ≤ sizeLine ∧ RelL A ys vs from hv)
      exact ⟨p, w, d.pd, D.pdA ys, rfl, rfl, hp, Rel.dp _ _ _ s1 hw, sh_shaped (shA_lst s2) (by decide), sh_shaped s1 (by decide), val_ok g h (by rw [cnt_pd]; rfl)⟩
    · cases e
theorem seeL_ok {o : LC.D} {S S' : Store} {u : Unit} (h : seeL o S = .ok u S') : S' = S ∧ ∃ ys, vw S o = .lst ys := by
  unfold seeL at h
  split at h
  · cases h; exact ⟨rfl, _, by assumption⟩
  · cases h
theorem seeL_nx {o : LC.D} {S S' : Store} {x : Str} : seeL o S ≠ .exc x S' := by
  intro h
  unfold seeL at h
  split at h <;> cases h
theorem sE_lm (m : LM) (eK : X.K = K) (hu : X.A.units + 65 < cLine) (hb : baseB o = true) (hl : (apos.endLine == cpos.line) = true) (hs : isStar e = false) (ho : PE X o (TEv K mg W eo)) (he : PE X e (TEv K mg W ee)) :
    PE X (.Call (.Attribute o m.nm apos) [e] [] cpos) (TEv K mg W (lmM m eo ee)) := by
  subst eK
  have h0 : PE X (.Call (.Attribute o m.nm apos) [e] [] cpos) (tBM X.K "list" (rLM X.K m) (TEv X.K mg W eo) (tCons (TEv X.K mg W ee) tNil)) := by
    cases m with
    | index => exact pe_bm (X := X) (cpos := cpos) (apos := apos) PySem.F.plainAttrs_list PySem.F.slot_list_index PySem.F.type_list_index (mt_indexD hu) ho (pa_cons he pa_nil (star_of hs)) (base_of hb) (few_of hs) hl (star_of hs) (by simp [starEach, backTo])
    | count => exact pe_bm (X := X) (cpos := cpos) (apos := apos) PySem.F.plainAttrs_list PySem.F.slot_list_count PySem.F.type_list_count (mt_countD hu) ho (pa_cons he pa_nil (star_of hs)) (base_of hb) (few_of hs) hl (star_of hs) (by simp [starEach, backTo])
  refine h0.less fun σ H Q h => ?_
  obtain ⟨A, ρ, S, eK, em, eH, g, r, h⟩ := h
  refine ⟨A, ρ, S, eK, em, eH, g, r, Rdg.bind h fun od S1 v B _ x1 g1 q1 h1 => ?_⟩
  have r1 := r.step (x1.step g)
  have eKB : B.K = X.K := x1.K.trans eK
  have hk : Post Rel B ((seeL od S1).bind fun _ => M.bind (ee ρ) fun d => fun S => match vw S od with
    | .lst xs => M.opt (fLM m xs d) S
    | _ => .bad) Q (fun c d H' => W c d σ H') := h1
  clear h1
  cases q : seeL od S1 with
  | bad => rw [q] at hk; exact hk.elim
  | exc x S' => exact absurd q seeL_nx
  | ok u S' =>
    rw [q] at hk
    obtain ⟨rfl, ys, hy⟩ := seeL_ok q
    have rv := vw_rel g1 q1
    rw [hy] at rv
    obtain ⟨p, vs, rfl, k1, _⟩ := (show ∃ p vs, v = .ref p ∧ SqL B.K B.H p vs ∧ ys.length ≤ sizeLine ∧ RelL B ys vs from rv)
    rw [eKB] at k1
    refine ⟨.inl ⟨rfl, vs, k1⟩, B, ρ, S', eKB, x1.mg.trans em, rfl, g1, r1, Rdg.bind (show Post Rel B ((ee ρ S').bind fun d => fun S => match vw S od with
      | .lst xs => M.opt (fLM m xs d) S
      | _ => .bad) Q (fun c d H' => W c d σ H') from hk) fun d S2 w C _ x2 g2 q2 h2 => ?_⟩
    have hj : Post Rel C (match vw S2 od with
      | .lst xs => M.opt (fLM m xs d) S2
      | _ => .bad) Q (fun c d H' => W c d σ H') := h2
    clear h2
    have rv2 := vw_rel g2 (Rel.step (x2.step g1) _ _ q1)
    cases q3 : vw S2 od with
    | lst zs =>
      rw [q3] at hj rv2
      have hj : Post Rel C (M.opt (fLM m zs d) S2) Q (fun c d H' => W c d σ H') := hj
      cases q4 : fLM m zs d with
      | none => rw [q4] at hj; exact hj.elim
      | some res =>
        rw [q4] at hj
        have := lm_sound (m := m) rv2 q2 g2 q4 hj
        rw [x2.K.trans eKB] at this
        exact this
    | _ => rw [q3] at hj; exact hj.elim
end
end LC

end
section
set_option maxHeartbeats 1000000
/-! LN5: enumerate as a source; tuple(range(..)); dicts with int keys. -/
namespace LC
open PySem PySem.Spec PyProof.Rows L2
theorem walks_enmT {A : At} {p : Addr} {xs : List D} {vs : List V} (h : A.H p = some (.tup vs)) (hz : xs.length ≤ sizeLine) (r : RelL A xs vs) : Walks A (.enm (.fix xs)) (IteT A.K p vs.length) := fun B S st g i r' e => by
  have hq : SqT A.K B.H p vs := SqT.of (st.tp _ _ (.inl ⟨_, rfl⟩) h)
  have e : (match (some xs[i]? : Option (Option D)) with
    | some (some d) => some (some (D.tup [.int (i : Nat), d]))
    | r => r) = some r' := e
  cases q : xs[i]? with
  | none =>
    rw [q] at e
    cases e
    have := List.getElem?_eq_none_iff.mp q
    exact ⟨vs, hq, rfl, by rw [r.len]; exact this⟩
  | some d =>
    rw [q] at e
    cases e
    obtain ⟨v, e1, r1⟩ := (RelL.step st _ _ r).get q
    have hi := (List.getElem?_eq_some_iff.mp q).1
    refine ⟨Nat.lt_of_lt_of_le hi hz, ⟨vs, v, hq, rfl, e1⟩, fun x H' hy => ?_⟩
    obtain ⟨T, x', rfl, hT, rfl, hall⟩ := hy
    have ex : x' = v := Option.some.inj ((hall vs hq).symm.trans e1)
    subst ex
    have xp := Ext.put (A := B) (p := T) (.tup [.int (i : Nat), x']) hT
    exact ⟨B.put T (.tup [.int (i : Nat), x']), rfl, xp, g.put _ hT, ⟨T, [.int (i : Nat), x'], rfl, upd_same, (by decide : 2 ≤ sizeLine), RelL.cons (show Rel _ (.int (i : Nat)) (.int (i : Nat)) from rfl) (RelL.one (Rel.step (xp.step g) _ _ r1))⟩⟩
def enmM (ea : Env → M D) : Env → M Src := fun ρ => M.bind (ea ρ) fun x => match x with
  | .tup xs => M.pure (.enm (.fix xs))
  | _ => M.bad
section
variable {X : Cx} {K : PySem.W.Frag} {mg : Str → Option Value} {E : XK} {W : WX} {pos apos cpos p p2 : Pos} {o e a b tg : Expr} {eo ee ea eb : Env → M D}
theorem sI_enm {elts : List Expr} {kk : Nat} {tpos : Pos} (eK : X.K = K) (hg : Gl X "enumerate") (hm : X.mg "enumerate" = none) (hs : isStar a = false) (ha : PE X a (TEv K mg W ea)) : PI X (.Tuple elts kk tpos) (.Call (.Name "enumerate" p) [a] [] pos) (TIv K mg W (enmM ea)) := by
  subst eK
  refine PI.less (pi_enumT hg hm (pa_cons ha pa_nil (star_of hs)) (by rw [star_of hs]; rfl)) fun σ H R h => ?_
  obtain ⟨A, ρ, S, eK, em, eH, g, r1, h⟩ := h
  refine ⟨A, ρ, S, eK, em, eH, g, r1, Rdg.bind h fun x S1 v B _ x1 g1 q1 h1 => ?_⟩
  cases x with
  | tup xs =>
    obtain ⟨q, vs, rfl, k1, k2, k3⟩ := q1
    have eKB : B.K = X.K := x1.K.trans eK
    have hw := walks_enmT k1 k2 k3
    rw [eKB] at hw
    exact ⟨q, vs, rfl, SqT.of k1, h1 _ B (Ext.refl B) g1 hw⟩
  | _ => exact h1.elim
/-! ### tuple(range(..)) -/
def rngT1 (ea : Env → M D) : Env → M D := fun ρ => M.bind (ea ρ) fun x => match x with
  | .int j => if -1000000 ≤ j ∧ j ≤ 1000000 then M.pure (.tup (rangeD 0 j.toNat)) else M.bad
  | _ => M.bad
def rngT2 (ea eb : Env → M D) : Env → M D := fun ρ => M.bind (ea ρ) fun x => M.bind (eb ρ) fun y => match x, y with
  | .int i, .int j => if -1000000 ≤ i ∧ i ≤ 1000000 ∧ -1000000 ≤ j ∧ j ≤ 1000000 then M.pure (.tup (rangeD i (j - i).toNat)) else M.bad
  | _, _ => M.bad
theorem rangeD_rel {A : At} (i : Int) : ∀ n : Nat, RelL A (rangeD i n) ((List.range n).map fun k => V.int (i + (k : Nat))) := by
  intro n
  unfold rangeD
  induction List.range n with
  | nil => rfl
  | cons k ks ih => exact ⟨_, _, rfl, rfl, ih⟩
theorem rangeD_length (i : Int) (n : Nat) : (rangeD i n).length = n := by
  unfold rangeD
  rw [List.length_map, List.length_range]
theorem sE_rngT1 (eK : X.K = K) (hc : X.calm = true) (hg : Gl X "tuple") (hm : X.mg "tuple" = none) (hg2 : Gl X "range") (hm2 : X.mg "range" = none) (hs : isStar a = false) (ha : PE X a (TEv K mg W ea)) :
    PE X (.Call (.Name "tuple" p) [.Call (.Name "range" p2) [a] [] cpos] [] pos) (TEv K mg W (rngT1 ea)) := by
  subst eK
  refine (pe_tupRg hc hg hm (prg_1 hg2 hm2 ha (star_of hs)) rfl).less fun σ H Q h => ?_
  obtain ⟨A, ρ, S, eK, em, eH, g, r1, h⟩ := h
  refine ⟨A, ρ, S, eK, em, eH, g, r1, Rdg.bind h fun x S1 v B _ x1 g1 q1 h1 => ?_⟩
  cases x with
  | int j =>
    have h1 : Post Rel B ((if -1000000 ≤ j ∧ j ≤ 1000000 then M.pure (LC.D.tup (rangeD 0 j.toNat)) else M.bad) S1) Q (fun c d H' => W c d σ H') := h1
    split at h1
    · rename_i hj
      refine ⟨j, q1, ⟨by omega, by omega, by omega, by omega, by omega⟩, fun q n => ?_⟩
      have hl : (rangeD 0 j.toNat).length ≤ sizeLine := by rw [rangeD_length, ← line_eq]; show j.toNat ≤ 16777216; omega
      have := new_tup g1 (rangeD_rel (A := B) 0 j.toNat) hl h1 n
      unfold rgV
      rw [Int.sub_zero]
      exact this
    · exact h1.elim
  | _ => exact h1.elim
/-! ### dicts with int keys -/
def dgetD (S : Store) : D → D → Option D
  | .cell n, .int k => match S[n]? with
    | some (.dI kvs) => kvs.lookup k
    | _ => none
  | _, _ => none
def dinD (S : Store) : D → D → Option Bool
  | .cell n, .int k => match S[n]? with
    | some (.dI kvs) => some (kvs.lookup k).isSome
    | _ => none
  | _, _ => none
def dgetM (eo ek : Env → M D) : Env → M D := fun ρ => M.bind (eo ρ) fun o => M.bind (ek ρ) fun k => fun S => M.opt (dgetD S o k) S
def dinM (ek eo : Env → M D) : Env → M D := fun ρ => M.bind (ek ρ) fun k => M.bind (eo ρ) fun o => fun S => M.opt ((dinD S o k).map D.bl) S
theorem di_val {A : At} : ∀ {kvs : List (Int × D)} {es : List (Key × V)} (k : Int), DiR A kvs es → match kvs.lookup k with
    | some d => ∃ v, valV es (Sum.inl k) = some v ∧ Rel A d v
    | none => valV es (Sum.inl k) = none
  | [], es, k, h => by
    rw [show es = [] from h]
    rfl
  | (x, d) :: r, es, k, h => by
    obtain ⟨v, q, rfl, h1, h2⟩ := h
    rw [List.lookup_cons]
    by_cases e : k = x
    · subst e
      rw [beq_self_eq_true]
      exact ⟨v, valV_pos rfl, h1⟩
    · have e' : (k == x) = false := by simpa using e
      rw [e', valV_neg (fun z => e (Sum.inl.inj z).symm)]
      exact di_val k h2
theorem dget_at {A : At} {S : Store} (g : Gd A S) {n : Nat} {p : Addr} {kvs : List (Int × LC.D)} (hp : A.m[n]? = some p) (hn : S[n]? = some (.dI kvs)) (k : Int) : match kvs.lookup k with
    | some d => ∃ v, DGet A.H p (.int k) (some v) ∧ Rel A d v
    | none => DGet A.H p (.int k) none := by
  obtain ⟨es, e1, _, r⟩ := g.ok n _ p hn hp
  have h := di_val k r
  cases q : kvs.lookup k with
  | none =>
    rw [q] at h
    have := DGet.k (k := Sum.inl k) e1
    rw [h] at this
    exact this
  | some d =>
    rw [q] at h
    obtain ⟨v, e2, r2⟩ := h
    have := DGet.k (k := Sum.inl k) e1
    rw [e2] at this
    exact ⟨v, this, r2⟩
theorem sE_dget (hu : X.A.units + 1 < cLine) (hs : NoSl b) (ho : PE X a (TEv K mg W ea)) (hk : PE X b (TEv K mg W eb)) : PE X (.Subscript a b pos) (TEv K mg W (dgetM ea eb)) :=
  (pe_dget hu ho hk hs).less fun σ H Q h => by
    obtain ⟨A, ρ, S, eK, em, eH, g, r1, h⟩ := h
    refine ⟨A, ρ, S, eK, em, eH, g, r1, Rdg.bind h fun x S1 v B _ x1 g1 q1 h1 => ?_⟩
    refine ⟨B, ρ, S1, x1.K.trans eK, x1.mg.trans em, rfl, g1, r1.step (x1.step g), Rdg.bind h1 fun y S2 w C _ x2 g2 q2 h2 => ?_⟩
    have hj : Post Rel C (M.opt (dgetD S2 x y) S2) Q (fun c d H' => W c d σ H') := h2
    clear h2
    cases x with
    | cell n =>
      cases y with
      | int k =>
        obtain ⟨p, hp, rfl⟩ := Rel.step (x2.step g1) _ _ q1
        have q2 : w = .int k := q2
        subst q2
        have hj : Post Rel C (M.opt (match S2[n]? with
          | some (.dI kvs) => kvs.lookup k
          | _ => none) S2) Q (fun c d H' => W c d σ H') := hj
        cases q : S2[n]? with
        | none => rw [q] at hj; exact hj.elim
        | some c =>
          rw [q] at hj
          cases c with
          | dI kvs =>
            have ha := dget_at g2 hp q k
            have hj : Post Rel C (M.opt (kvs.lookup k) S2) Q (fun c d H' => W c d σ H') := hj
            cases ql : kvs.lookup k with
            | none => rw [ql] at hj; exact hj.elim
            | some d =>
              rw [ql] at hj ha
              obtain ⟨v, hd, hr⟩ := ha
              exact ⟨p, v, rfl, hd, val_ok g2 hj hr⟩
          | _ => exact hj.elim
      | _ => exact hj.elim
    | _ => cases y <;> exact hj.elim
theorem rd_din {σ : L2.St} {H : Hp} {Q : VK} (h : TEv K mg W (dinM ea eb) σ H Q) : tDIn (TEv K mg W ea) (TEv K mg W eb) σ H Q := by
  obtain ⟨A, ρ, S, eK, em, eH, g, r1, h⟩ := h
  refine ⟨A, ρ, S, eK, em, eH, g, r1, Rdg.bind h fun y S1 w B _ x1 g1 q1 h1 => ?_⟩
  refine ⟨B, ρ, S1, x1.K.trans eK, x1.mg.trans em, rfl, g1, r1.step (x1.step g), Rdg.bind h1 fun x S2 v C _ x2 g2 q2 h2 => ?_⟩
  have hj : Post Rel C (M.opt ((dinD S2 x y).map LC.D.bl) S2) Q (fun c d H' => W c d σ H') := h2
  clear h2
  cases x with
  | cell n =>
    cases y with
    | int k =>
      obtain ⟨p, hp, rfl⟩ := q2
      have q1 : w = .int k := q1
      subst q1
      have hj : Post Rel C (M.opt ((match S2[n]? with
        | some (.dI kvs) => some (kvs.lookup k).isSome
        | _ => none).map LC.D.bl) S2) Q (fun c d H' => W c d σ H') := hj
      cases q : S2[n]? with
      | none => rw [q] at hj; exact hj.elim
      | some c =>
        rw [q] at hj
        cases c with
        | dI kvs =>
          have ha := dget_at g2 hp q k
          have hj : Post Rel C (.ok (.bl (kvs.lookup k).isSome) S2) Q (fun c d H' => W c d σ H') := hj
          cases ql : kvs.lookup k with
          | none =>
            rw [ql] at hj ha
            exact ⟨p, none, rfl, ha, val_ok g2 hj rfl⟩
          | some d =>
            rw [ql] at hj ha
            obtain ⟨v, hd, hr⟩ := ha
            exact ⟨p, some v, rfl, hd, val_ok g2 hj rfl⟩
        | _ => exact hj.elim
    | _ => exact hj.elim
  | _ => cases y <;> exact hj.elim
theorem sE_din (hu : X.A.units + 1 < cLine) (hm : behindInMarks .In b = false) (hk : PE X a (TEv K mg W ea)) (ho : PE X b (TEv K mg W eb)) : PE X (.Compare a [.In] [b] pos) (TEv K mg W (dinM ea eb)) :=
  (pe_cmp (pc_din hu hk ho) hm).less fun σ H Q h => rd_din h
theorem sT_din (hu : X.A.units + 1 < cLine) (hm : behindInMarks .In b = false) (hk : PE X a (TEv K mg W ea)) (ho : PE X b (TEv K mg W eb)) : PT X (.Compare a [.In] [b] pos) (TTv K mg W (asBl (dinM ea eb))) :=
  (pt_cmp (pc_din hu hk ho) hm).less fun σ H Q h => rd_din (rd_bl h)
end
end LC

end
section
set_option maxHeartbeats 1000000
/-! LN6: dict(list of pairs). -/
namespace LC
open PySem PySem.Spec PyProof.Rows L2
def putD (kvs : List (Int × D)) (k : Int) (d : D) : List (Int × D) := if (kvs.any fun kv => decide (kv.1 = k)) = true then kvs.map (fun kv => if kv.1 = k then (kv.1, d) else kv) else kvs ++ [(k, d)]
def mergeD (kvs more : List (Int × D)) : List (Int × D) := more.foldl (fun acc kv => putD acc kv.1 kv.2) kvs
/-- the pairs of a list -/
def pairsOf : List D → Option (List (Int × D))
  | [] => some []
  | .tup [.int k, d] :: r => (pairsOf r).map ((k, d) :: ·)
  | _ => none
def newDict (kvs : List (Int × D)) : M D := fun S => .ok (.cell S.length) (S ++ [.dI kvs])
def dictM (ea : Env → M D) : Env → M D := fun ρ => M.bind (ea ρ) fun x => match x with
  | .lst xs => match pairsOf xs with
    | some kvs => newDict (mergeD [] kvs)
    | none => M.bad
  | _ => M.bad
theorem DiR.any {A : At} {k : Int} : ∀ {kvs : List (Int × D)} {es : List (Key × V)}, DiR A kvs es → (es.any fun kv => decide (kv.1 = Sum.inl k)) = kvs.any fun kv => decide (kv.1 = k)
  | [], es, h => by
    rw [show es = [] from h]
    rfl
  | (x, d) :: r, es, h => by
    obtain ⟨v, q, rfl, h1, h2⟩ := h
    show (decide ((Sum.inl x : Key) = Sum.inl k) || _) = (decide (x = k) || _)
    rw [DiR.any h2]
    congr 1
    exact decide_eq_decide.mpr ⟨Sum.inl.inj, fun z => by rw [z]⟩
theorem DiR.map {A : At} {k : Int} {d : D} {v : V} (hv : Rel A d v) : ∀ {kvs : List (Int × D)} {es : List (Key × V)}, DiR A kvs es → DiR A (kvs.map fun kv => if kv.1 = k then (kv.1, d) else kv) (es.map fun kv => if kv.1 = Sum.inl k then (kv.1, v) else kv)
  | [], es, h => by
    rw [show es = [] from h]
    rfl
  | (x, d') :: r, es, h => by
    obtain ⟨w, q, rfl, h1, h2⟩ := h
    by_cases e : x = k
    · subst e
      rw [List.map_cons, List.map_cons]
      simp only [if_true]
      exact ⟨v, _, rfl, hv, DiR.map hv h2⟩
    · rw [List.map_cons, List.map_cons]
      simp only [if_neg e, if_neg (fun z : (Sum.inl x : Key) = Sum.inl k => e (Sum.inl.inj z))]
      exact ⟨w, _, rfl, h1, DiR.map hv h2⟩
theorem DiR.snoc {A : At} {k : Int} {d : D} {v : V} (hv : Rel A d v) : ∀ {kvs : List (Int × D)} {es : List (Key × V)}, DiR A kvs es → DiR A (kvs ++ [(k, d)]) (es ++ [(Sum.inl k, v)])
  | [], es, h => by
    rw [show es = [] from h]
    exact ⟨v, [], rfl, hv, rfl⟩
  | (x, d') :: r, es, h => by
    obtain ⟨w, q, rfl, h1, h2⟩ := h
    exact ⟨w, _, rfl, h1, DiR.snoc hv h2⟩
theorem DiR.put {A : At} {k : Int} {d : D} {v : V} {kvs : List (Int × D)} {es : List (Key × V)} (h : DiR A kvs es) (hv : Rel A d v) : DiR A (putD kvs k d) (putK es (Sum.inl k) v) := by
  unfold putD putK
  rw [h.any]
  split
  · exact DiR.map hv h
  · exact DiR.snoc hv h
theorem DiR.merge {A : At} : ∀ {more : List (Int × D)} {ms : List (Key × V)} {kvs : List (Int × D)} {es : List (Key × V)}, DiR A more ms → DiR A kvs es → DiR A (mergeD kvs more) (mergeK es ms)
  | [], ms, kvs, es, h, h0 => by
    rw [show ms = [] from h]
    exact h0
  | (x, d) :: r, ms, kvs, es, h, h0 => by
    obtain ⟨v, q, rfl, h1, h2⟩ := h
    show DiR A (mergeD (putD kvs x d) r) (mergeK (putK es (Sum.inl x) v) q)
    exact DiR.merge h2 (h0.put h1)
theorem mergeD_len : ∀ (more kvs : List (Int × D)), (mergeD kvs more).length ≤ kvs.length + more.length
  | [], kvs => Nat.le_refl _
  | (x, d) :: r, kvs => by
    have h := mergeD_len r (putD kvs x d)
    have h2 : (putD kvs x d).length ≤ kvs.length + 1 := by
      unfold putD
      split
      · rw [List.length_map]; exact Nat.le_succ _
      · rw [List.length_append]; exact Nat.le_refl _
    show (mergeD (putD kvs x d) r).length ≤ _
    rw [List.length_cons]
    omega
theorem pairs_len : ∀ {xs : List D} {kvs : List (Int × D)}, pairsOf xs = some kvs → kvs.length = xs.length
  | [], kvs, h => by cases h; rfl
  | x :: r, kvs, h => by
    unfold pairsOf at h
    split at h
    · rename_i h0; cases h0
    · rename_i k d r' h0
      cases h0
      obtain ⟨ks, e, rfl⟩ := Option.map_eq_some_iff.mp h
      rw [List.length_cons, List.length_cons, pairs_len e]
    · cases h
theorem pairs_rel {A : At} : ∀ {xs : List D} {vs : List V} {kvs : List (Int × D)}, RelL A xs vs → pairsOf xs = some kvs → ∃ (ps : List Addr) (es : List (Key × V)), vs = ps.map V.ref ∧ Paired (fun p kv => SqT A.K A.H p [kV kv.1, kv.2]) ps es ∧ DiR A kvs es
  | [], vs, kvs, r, h => by
    cases h
    rw [show vs = [] from r]
    exact ⟨[], [], rfl, .nil, rfl⟩
  | x :: xs, vs, kvs, r, h => by
    obtain ⟨v, q, rfl, r1, r2⟩ := r
    unfold pairsOf at h
    split at h
    · rename_i h0; cases h0
    · rename_i k d r' h0
      cases h0
      obtain ⟨ks, e, rfl⟩ := Option.map_eq_some_iff.mp h
      obtain ⟨ps, es, rfl, h3, h4⟩ := pairs_rel r2 e
      obtain ⟨p, ws, rfl, h5, _, h6⟩ := (show ∃ p ws, v = .ref p ∧ A.H p = some (.tup ws) ∧ [LC.D.int k, d].length ≤ sizeLine ∧ RelL A [.int k, d] ws from r1)
      obtain ⟨w1, w2, rfl, h7, h8⟩ := h6.two'
      have h7 : w1 = .int k := h7
      subst h7
      exact ⟨p :: ps, (Sum.inl k, w2) :: es, rfl, .cons (SqT.of h5) h3, w2, es, rfl, h8, h4⟩
    · cases h
section
variable {X : Cx} {K : PySem.W.Frag} {mg : Str → Option Value} {W : WX} {pos p : Pos} {a : Expr} {ea : Env → M D}
theorem sE_dict (eK : X.K = K) (hc : X.calm = true) (hg : Gl X "dict") (hm : X.mg "dict" = none) (hs : isStar a = false) (ha : PE X a (TEv K mg W ea)) : PE X (.Call (.Name "dict" p) [a] [] pos) (TEv K mg W (dictM ea)) := by
  subst eK
  refine (pe_callTy (call_dictP hc) hg hm (by decide +kernel) (pa_cons ha pa_nil (star_of hs)) (by decide) (by decide) (star_of hs) (by simp [starEach, backTo])).less fun σ H Q h => ?_
  obtain ⟨A, ρ, S, eK, em, eH, g, r1, h⟩ := h
  refine ⟨A, ρ, S, eK, em, eH, g, r1, Rdg.bind h fun x S1 v B _ x1 g1 q1 h1 => ?_⟩
  have eKB : B.K = X.K := x1.K.trans eK
  cases x with
  | lst xs =>
    have hj : Post Rel B ((match pairsOf xs with
      | some kvs => newDict (mergeD [] kvs)
      | none => M.bad) S1) Q (fun c d H' => W c d σ H') := h1
    clear h1
    have rv := Rel.r q1
    obtain ⟨q, vs, rfl, k1, k2, k3⟩ := (show ∃ p vs, v = .ref p ∧ SqL B.K B.H p vs ∧ xs.length ≤ sizeLine ∧ RelL B xs vs from rv)
    cases e : pairsOf xs with
    | none => rw [e] at hj; exact hj.elim
    | some kvs =>
      rw [e] at hj
      obtain ⟨ps, es, rfl, h3, h4⟩ := pairs_rel k3 e
      rw [eKB] at k1 h3
      refine ⟨q, ps, es, rfl, k1, h3, fun l n => ?_⟩
      have xc := Ext.cell (A := B) (p := l) (.dK (mergeK [] es)) n
      have hl := mergeD_len kvs []
      have hpl := pairs_len e
      have hD : DiR (B.cell l (.dK (mergeK [] es))) (mergeD [] kvs) (mergeK [] es) := DiR.step (xc.step g1) (DiR.merge h4 (show DiR B [] [] from rfl))
      have hlen : (mergeD [] kvs).length ≤ sizeLine := by
        have : ([] : List (Int × LC.D)).length = 0 := rfl
        omega
      refine hj (.ref l) (B.cell l (.dK (mergeK [] es))) xc (g1.cell' n ⟨_, rfl, hlen, hD⟩) ⟨l, ?_, rfl⟩
      show (B.m ++ [l])[S1.length]? = some l
      rw [← g1.len, List.getElem?_append_right (Nat.le_refl _), Nat.sub_self]
      rfl
  | _ => exact h1.elim
end
end LC

end
section
set_option maxHeartbeats 1000000
/-! LN7: zip of two tuples, its old pair still held (draft: the end and dict(zip(..)) are lacking). -/
namespace L2
open PySem PySem.Spec PyProof.Rows PySem.W
section
variable {prog : Program} {w : World} {A : Around} {E : Value → Shared → Prop} {s : Shared}
theorem zipT_held {z TI TO T i1 i2 t1 t2 : Addr} {f : Bool} {oT : Obj} {k1 k2 : Nat} {xs ys : Array Value} {x y : Value} {Q : Value → Shared → Prop} (Z : ZipApart z TI TO i1 i2 t1 t2)
    (zh : IsZipHeld s.heap z TI TO T f) (tT : s.heap.get? T = some oT) (pI : IsPair s.heap TI (.ref i1) (.ref i2))
    (g1 : s.heap.IsTupleIter i1 t1 k1) (g2 : s.heap.IsTupleIter i2 t2 k2) (l1 : s.heap.IsTuple t1 xs) (l2 : s.heap.IsTuple t2 ys) (ex : xs[k1]? = some x) (ey : ys[k2]? = some y)
    (q : ∀ h', IsZipHeld h' z TI TO T true → h'.IsTupleIter i1 t1 (k1 + 1) → h'.IsTupleIter i2 t2 (k2 + 1) → IsPair h' s.heap.objs.size x y → h'.objs.size = s.heap.objs.size + 1 →
      (∀ c o, c ≠ z → c ≠ i1 → c ≠ i2 → s.heap.get? c = some o → h'.get? c = some o) → Q (.ref s.heap.objs.size) { s with heap := h' }) :
    wpAny (model prog w) A (Builtin.«zip.__next__» ⟨[.ref z], []⟩) (fun fin s' => ∃ v, fin = .done (.ret v) ∧ Q v s') E s := by
  show wpAny _ _ (field (.ref z) 2 >>= _) _ _ _
  refine wpAny_bind (wpAny_field zh rfl (x := .bool false) rfl ?_)
  show wpAny _ _ (field (.ref z) 3 >>= _) _ _ _
  refine wpAny_bind (wpAny_field zh rfl (x := .ref TI) rfl (wpAny_bind (wpAny_seqItems pI rfl ?_)))
  show wpAny _ _ (Builtin.SmallTypes.ownedTupleIsFree (.ref z) >>= _) _ _ _
  refine wpAny_bind (wpAny_tupleHeld_zip zh tT fun ha za sa => ?_)
  simp only [Bool.false_eq_true, if_false]
  refine wpAny_bind ?_
  rw [← Array.forIn_toList]
  simp only [List.forIn_cons, List.forIn_nil]
  refine wpAny_bind (wpAny_bind (wpAny_holding ?_))
  show wpAny _ _ (Builtin.SmallTypes.nextOf (.ref i1) >>= _) _ _ _
  refine wpAny_bind (wpAny_nextOf_tuple_item (s := { s with heap := ha }) (g1.extBut sa.extBut Z.i1z) (l1.extBut sa.extBut Z.l1z) ex fun hb gb sb => wpAny_pure (wpAny_pure ?_))
  refine wpAny_bind (wpAny_bind (wpAny_holding ?_))
  show wpAny _ _ (Builtin.SmallTypes.nextOf (.ref i2) >>= _) _ _ _
  refine wpAny_bind (wpAny_nextOf_tuple_item (s := { s with heap := hb }) ((g2.extBut sa.extBut Z.i2z).extBut sb.extBut Z.i12.symm) ((l2.extBut sa.extBut Z.l2z).extBut sb.extBut Z.l2i1) ey fun hc gc sc => wpAny_pure (wpAny_pure (wpAny_pure ?_)))
  show wpAny _ _ (newTuple [x, y] >>= _) _ _ _
  refine wpAny_bind (wpAny_newTuple ?_)
  have e1 : hc.objs.size = s.heap.objs.size := by rw [sc.1, sb.1, sa.1]
  have zc : IsZipHeld hc z TI TO T true := sc.extBut _ _ Z.i2z.symm (sb.extBut _ _ Z.i1z.symm za)
  refine wpAny_pure ⟨_, rfl, ?_⟩
  show Q (.ref hc.objs.size) _
  have e2 : IsPair (hc.push { cls := .type "tuple", data := .seq #[x, y] }) hc.objs.size x y := Heap.get?_push_size _ rfl
  have e3 : (hc.push { cls := .type "tuple", data := .seq #[x, y] }).objs.size = hc.objs.size + 1 := Heap.size_push ..
  rw [e1] at e2 e3 ⊢
  exact q _ (Heap.get?_push_of_some _ zc) ((gb.extBut sc.extBut Z.i12).at fun o e => Heap.get?_push_of_some _ e) (gc.at fun o e => Heap.get?_push_of_some _ e) e2 e3
    fun c o c1 c2 c3 e => Heap.get?_push_of_some _ (sc.extBut _ _ c3 (sb.extBut _ _ c2 (sa.extBut _ _ c1 e)))
theorem zipT_over {z TI TO T i1 i2 t1 t2 : Addr} {f : Bool} {oT : Obj} {k1 k2 : Nat} {xs ys : Array Value} {Q : Fin → Shared → Prop} (free : A.handled = none) (Z : ZipApart z TI TO i1 i2 t1 t2)
    (zh : IsZipHeld s.heap z TI TO T f) (tT : s.heap.get? T = some oT) (pI : IsPair s.heap TI (.ref i1) (.ref i2))
    (g1 : s.heap.IsTupleIter i1 t1 k1) (g2 : s.heap.IsTupleIter i2 t2 k2) (l1 : s.heap.IsTuple t1 xs) (l2 : s.heap.IsTuple t2 ys) (over : xs[k1]? = none ∨ ys[k2]? = none)
    (q : ∀ h' e, (∀ c o, c ≠ z → c ≠ i1 → c ≠ i2 → s.heap.get? c = some o → h'.get? c = some o) → (∃ o, h'.get? e = some o ∧ o.cls = .type "StopIteration") → E (.ref e) { s with heap := h' }) :
    wpAny (model prog w) A (Builtin.«zip.__next__» ⟨[.ref z], []⟩) Q E s := by
  show wpAny _ _ (field (.ref z) 2 >>= _) _ _ _
  refine wpAny_bind (wpAny_field zh rfl (x := .bool false) rfl ?_)
  show wpAny _ _ (field (.ref z) 3 >>= _) _ _ _
  refine wpAny_bind (wpAny_field zh rfl (x := .ref TI) rfl (wpAny_bind (wpAny_seqItems pI rfl ?_)))
  show wpAny _ _ (Builtin.SmallTypes.ownedTupleIsFree (.ref z) >>= _) _ _ _
  refine wpAny_bind (wpAny_tupleHeld_zip zh tT fun ha za sa => ?_)
  simp only [Bool.false_eq_true, if_false]
  refine wpAny_bind ?_
  rw [← Array.forIn_toList]
  simp only [List.forIn_cons, List.forIn_nil]
  refine wpAny_bind (wpAny_bind (wpAny_holding ?_))
  show wpAny _ _ (Builtin.SmallTypes.nextOf (.ref i1) >>= _) _ _ _
  cases ex : xs[k1]? with
  | none =>
    refine wpAny_bind (wpAny_nextOf_tuple_end (s := { s with heap := ha }) free (g1.extBut sa.extBut Z.i1z) (l1.extBut sa.extBut Z.l1z) ex fun hb e sb he => ?_)
    exact q hb e (fun c o c1 c2 _ u => sb _ _ c2 (sa.extBut _ _ c1 u)) he
  | some x =>
    have ey : ys[k2]? = none := over.resolve_left (by rw [ex]; simp)
    refine wpAny_bind (wpAny_nextOf_tuple_item (s := { s with heap := ha }) (g1.extBut sa.extBut Z.i1z) (l1.extBut sa.extBut Z.l1z) ex fun hb gb sb => wpAny_pure (wpAny_pure ?_))
    refine wpAny_bind (wpAny_bind (wpAny_holding ?_))
    show wpAny _ _ (Builtin.SmallTypes.nextOf (.ref i2) >>= _) _ _ _
    refine wpAny_bind (wpAny_nextOf_tuple_end (s := { s with heap := hb }) free ((g2.extBut sa.extBut Z.i2z).extBut sb.extBut Z.i12.symm) ((l2.extBut sa.extBut Z.l2z).extBut sb.extBut Z.l2i1) ey fun hc e sc he => ?_)
    exact q hc e (fun c o c1 c2 c3 u => sc _ _ c3 (sb.extBut _ _ c2 (sa.extBut _ _ c1 u))) he
theorem nextT_held {z TI TO T i1 i2 t1 t2 : Addr} {f : Bool} {oT : Obj} {k1 k2 : Nat} {xs ys : Array Value} {x y : Value} {Q : Option Value → Shared → Prop} (Z : ZipApart z TI TO i1 i2 t1 t2)
    (zh : IsZipHeld s.heap z TI TO T f) (tT : s.heap.get? T = some oT) (pI : IsPair s.heap TI (.ref i1) (.ref i2))
    (g1 : s.heap.IsTupleIter i1 t1 k1) (g2 : s.heap.IsTupleIter i2 t2 k2) (l1 : s.heap.IsTuple t1 xs) (l2 : s.heap.IsTuple t2 ys) (ex : xs[k1]? = some x) (ey : ys[k2]? = some y)
    (q : ∀ h', IsZipHeld h' z TI TO T true → h'.IsTupleIter i1 t1 (k1 + 1) → h'.IsTupleIter i2 t2 (k2 + 1) → IsPair h' s.heap.objs.size x y → h'.objs.size = s.heap.objs.size + 1 →
      (∀ c o, c ≠ z → c ≠ i1 → c ≠ i2 → s.heap.get? c = some o → h'.get? c = some o) → Q (some (.ref s.heap.objs.size)) { s with heap := h' }) :
    wpAny (model prog w) A (pyNext (.ref z)) Q E s := by
  have ty : s.TypeIs (.ref z) "zip" := ⟨_, zh, rfl⟩
  unfold pyNext
  exact wpAny_bind (wpAny_attempt (wpAny_callSpecial?_slot (name := Str.ofString "__next__") ty F.slot_zip_next
    (wpAny_call_entry F.slot_zip_next ty F.entry_zip_next (zipT_held Z zh tT pI g1 g2 l1 l2 ex ey fun h' a1 a2 a3 a4 a5 a6 => wpAny_pure (q h' a1 a2 a3 a4 a5 a6)) (F.args_zip_next_1 _))))
theorem nextT_over {z TI TO T i1 i2 t1 t2 : Addr} {f : Bool} {oT : Obj} {k1 k2 : Nat} {xs ys : Array Value} {Q : Option Value → Shared → Prop} (free : A.handled = none) (Z : ZipApart z TI TO i1 i2 t1 t2)
    (zh : IsZipHeld s.heap z TI TO T f) (tT : s.heap.get? T = some oT) (pI : IsPair s.heap TI (.ref i1) (.ref i2))
    (g1 : s.heap.IsTupleIter i1 t1 k1) (g2 : s.heap.IsTupleIter i2 t2 k2) (l1 : s.heap.IsTuple t1 xs) (l2 : s.heap.IsTuple t2 ys) (over : xs[k1]? = none ∨ ys[k2]? = none)
    (q : ∀ h', (∀ c o, c ≠ z → c ≠ i1 → c ≠ i2 → s.heap.get? c = some o → h'.get? c = some o) → Q none { s with heap := h' }) : wpAny (model prog w) A (pyNext (.ref z)) Q E s := by
  have ty : s.TypeIs (.ref z) "zip" := ⟨_, zh, rfl⟩
  unfold pyNext
  refine wpAny_bind (wpAny_attempt (wpAny_callSpecial?_slot (name := Str.ofString "__next__") ty F.slot_zip_next
    (wpAny_call_entry F.slot_zip_next ty F.entry_zip_next (zipT_over free Z zh tT pI g1 g2 l1 l2 over fun h' e kk ⟨o, ho, hc⟩ => ?_) (F.args_zip_next_1 _))))
  refine wpAny_bind (wpAny_isInstance (T := "StopIteration") (b := true) ⟨o, ho, hc⟩ isSubtype_stop ?_)
  exact wpAny_pure (q _ kk)
end
end L2

end
section
set_option maxHeartbeats 1000000
/-! LN8: zip of two tuples as the argument of dict(). -/
namespace L2
open PySem PySem.Spec PyProof.Rows PySem.W
section
variable {prog : Program} {w : World}
def zpSt (z TI TO i1 i2 t1 t2 d : Addr) (xs ys : Array Value) (i : Nat) (h : Heap) : Prop :=
  IsPair h TI (.ref i1) (.ref i2) ∧ h.IsTupleIter i1 t1 i ∧ h.IsTupleIter i2 t2 i ∧ h.IsTuple t1 xs ∧ h.IsTuple t2 ys ∧
    ((IsZip h z TI TO .none ∧ ∃ a b, IsPair h TO a b) ∨ ∃ T f oT, IsZipHeld h z TI TO T f ∧ h.get? T = some oT ∧ T ≠ z ∧ T ≠ i1 ∧ T ≠ i2 ∧ T ≠ d)
theorem zp_src {A : Around} {z TI TO i1 i2 t1 t2 d : Addr} (free : A.handled = none) (Z : ZipApart z TI TO i1 i2 t1 t2) (xs ys : Array Value) (nd : d ∉ [z, TI, TO, i1, i2, t1, t2]) :
    PairSrc prog w A z d [z, TO, i1, i2] (min xs.size ys.size) (fun i k v => xs[i]? = some k ∧ ys[i]? = some v) (zpSt z TI TO i1 i2 t1 t2 d xs ys) where
  off := fun hm => nd (by
    simp only [List.mem_cons, List.not_mem_nil, or_false] at hm ⊢
    rcases hm with e | e | e | e <;> simp [e])
  frame := fun i ha hb st keep => by
    obtain ⟨p, g1, g2, l1, l2, zz⟩ := st
    have ne : ∀ b ∈ [z, TI, TO, i1, i2, t1, t2], b ≠ d := fun b hb e => nd (e ▸ hb)
    refine ⟨keep _ _ (ne _ (by simp)) p, g1.at fun o e => keep _ o (ne _ (by simp)) e, g2.at fun o e => keep _ o (ne _ (by simp)) e, l1.at fun o e => keep _ o (ne _ (by simp)) e, l2.at fun o e => keep _ o (ne _ (by simp)) e, ?_⟩
    rcases zz with ⟨q, a, b, r⟩ | ⟨T, f, oT, q, r, r1, r2, r3, r4⟩
    · exact .inl ⟨keep _ _ (ne _ (by simp)) q, a, b, keep _ _ (ne _ (by simp)) r⟩
    · exact .inr ⟨T, f, oT, keep _ _ (ne _ (by simp)) q, keep _ _ r4 r, r1, r2, r3, r4⟩
  item := fun i s Q E hi st hd q => by
    obtain ⟨p, g1, g2, l1, l2, zz⟩ := st
    have ex := Array.getElem?_eq_getElem (Nat.lt_of_lt_of_le hi (Nat.min_le_left xs.size ys.size))
    have ey := Array.getElem?_eq_getElem (Nat.lt_of_lt_of_le hi (Nat.min_le_right xs.size ys.size))
    have new : ∀ {c o}, s.heap.get? c = some o → s.heap.objs.size ≠ c := fun e => Nat.ne_of_gt (Heap.lt_size e)
    have n1 : s.heap.objs.size ≠ i1 := let ⟨_, e, _⟩ := g1; new e
    have n2 : s.heap.objs.size ≠ i2 := let ⟨_, e, _⟩ := g2; new e
    rcases zz with ⟨zz, a, b, r⟩ | ⟨T, f, oT, zz, r, r1, r2, r3, r4⟩
    · refine RZ.pyNext_zipT_item Z zz p r g1 g2 l1 l2 ex ey fun h' a1 a2 a3 a4 a5 a6 kk => ?_
      exact q s.heap.objs.size _ _ h' s.toks ⟨ex, ey⟩ (.inl ⟨_, a5, rfl, _, rfl⟩)
        ⟨kk _ _ Z.TIz Z.TITO Z.TIi1 Z.TIi2 p, a3, a4, l1.at fun o e => kk _ o Z.l1z Z.l1TO Z.l1i1 Z.l1i2 e, l2.at fun o e => kk _ o Z.l2z Z.l2TO Z.l2i1 Z.l2i2 e, .inr ⟨s.heap.objs.size, false, _, a1, a5, new zz, n1, n2, Nat.ne_of_gt hd⟩⟩
        fun c o nc e => kk c o (fun x => nc (by simp [x])) (fun x => nc (by simp [x])) (fun x => nc (by simp [x])) (fun x => nc (by simp [x])) e
    · refine nextT_held Z zz r p g1 g2 l1 l2 ex ey fun h' a1 a3 a4 a5 a6 kk => ?_
      exact q s.heap.objs.size _ _ h' s.toks ⟨ex, ey⟩ (.inl ⟨_, a5, rfl, _, rfl⟩)
        ⟨kk _ _ Z.TIz Z.TIi1 Z.TIi2 p, a3, a4, l1.at fun o e => kk _ o Z.l1z Z.l1i1 Z.l1i2 e, l2.at fun o e => kk _ o Z.l2z Z.l2i1 Z.l2i2 e, .inr ⟨T, true, oT, a1, kk _ _ r1 r2 r3 r, r1, r2, r3, r4⟩⟩
        fun c o nc e => kk c o (fun x => nc (by simp [x])) (fun x => nc (by simp [x])) (fun x => nc (by simp [x])) e
  done := fun s Q E st q => by
    obtain ⟨p, g1, g2, l1, l2, zz⟩ := st
    have over : xs[min xs.size ys.size]? = none ∨ ys[min xs.size ys.size]? = none := by
      rcases Nat.le_total xs.size ys.size with h | h
      · exact .inl (Array.getElem?_eq_none (by rw [Nat.min_eq_left h]; exact Nat.le_refl _))
      · exact .inr (Array.getElem?_eq_none (by rw [Nat.min_eq_right h]; exact Nat.le_refl _))
    rcases zz with ⟨zz, a, b, r⟩ | ⟨T, f, oT, zz, r, r1, r2, r3, r4⟩
    · exact RZ.pyNext_zipT_end free Z zz p r g1 g2 l1 l2 over fun h' kk => q h' s.toks fun c o nc e => kk c o (fun x => nc (by simp [x])) (fun x => nc (by simp [x])) (fun x => nc (by simp [x])) (fun x => nc (by simp [x])) e
    · exact nextT_over free Z zz r p g1 g2 l1 l2 over fun h' kk => q h' s.toks fun c o nc e => kk c o (fun x => nc (by simp [x])) (fun x => nc (by simp [x])) (fun x => nc (by simp [x])) e
end
end L2

end
section
set_option maxHeartbeats 1000000
/-! LN9: dict(zip(tuple, tuple)). -/
namespace L2
open PySem PySem.Spec PyProof.Rows PySem.W
section
variable {prog : Program} {w : World}
theorem zp_arg (z TI TO i1 i2 t1 t2 : Addr) (Z : ZipApart z TI TO i1 i2 t1 t2) (xs ys : Array Value) :
    PairArg prog w "zip" z [z, TI, TO, i1, i2, t1, t2] [z, TO, i1, i2] (min xs.size ys.size) (fun i k v => xs[i]? = some k ∧ ys[i]? = some v)
      (fun h => IsZip h z TI TO .none ∧ IsPair h TI (.ref i1) (.ref i2) ∧ (∃ a b, IsPair h TO a b) ∧ h.IsTupleIter i1 t1 0 ∧ h.IsTupleIter i2 t2 0 ∧ h.IsTuple t1 xs ∧ h.IsTuple t2 ys) where
  type := fun s ok => ⟨_, ok.1, rfl⟩
  notDict := by decide
  keep := fun ha hb ok k => by
    obtain ⟨zz, p, ⟨a, b, r⟩, g1, g2, l1, l2⟩ := ok
    exact ⟨k _ _ zz, k _ _ p, ⟨a, b, k _ _ r⟩, g1.at fun o e => k _ o e, g2.at fun o e => k _ o e, l1.at fun o e => k _ o e, l2.at fun o e => k _ o e⟩
  there := fun h ok b hb => by
    obtain ⟨zz, p, ⟨a, c, r⟩, ⟨o1, g1, _⟩, ⟨o2, g2, _⟩, ⟨o3, l1, _⟩, ⟨o4, l2, _⟩⟩ := ok
    simp only [List.mem_cons, List.not_mem_nil, or_false] at hb
    rcases hb with rfl | rfl | rfl | rfl | rfl | rfl | rfl
    · exact ⟨_, zz⟩
    · exact ⟨_, p⟩
    · exact ⟨_, r⟩
    · exact ⟨_, g1⟩
    · exact ⟨_, g2⟩
    · exact ⟨_, l1⟩
    · exact ⟨_, l2⟩
  sub := fun b hb => by
    simp only [List.mem_cons, List.not_mem_nil, or_false] at hb ⊢
    rcases hb with rfl | rfl | rfl | rfl <;> simp
  noKeys := fun A s Q E free ok q => getAttrOr_miss_zip ok.1 rfl rfl rfl zip_no_keys (by decide +kernel) free q
  iter := fun A s d Q E free ok hd nd q => by
    obtain ⟨zz, p, ⟨a, b, r⟩, g1, g2, l1, l2⟩ := ok
    exact wpAny_pyIter_zip zz (q z [z, TO, i1, i2] (zpSt z TI TO i1 i2 t1 t2 d xs ys) s.heap s.toks (zp_src free Z xs ys nd) ⟨p, g1, g2, l1, l2, .inl ⟨zz, a, b, r⟩⟩ (fun _ _ e => e) fun b hb => .inl hb)
end
end L2

end
section
set_option maxHeartbeats 1000000
/-! LN10: the rule of dict(zip(a, b)) of two tuples. -/
namespace L2
open PySem PySem.Spec PyProof.Rows PySem.W
/-- dict(zip(a, b)) -/
def tDictZ (K : PySem.W.Frag) (ta : TA) : TE := fun σ H Q => ta σ H fun vs H1 => ∃ (a b : Addr) (ks : List Key) (ys : List V), vs = [.ref a, .ref b] ∧ SqT K H1 a (ks.map kV) ∧ SqT K H1 b ys ∧ ks.length = ys.length ∧ ∀ p, H1 p = none → Q (.ref p) (upd H1 p (.dK (mergeK [] (ks.zip ys))))
theorem zip_paired {ys : List V} : ∀ {ks : List Key} {us us2 : List Value}, Vals (ks.map kV) us → Vals ys us2 → ks.length = ys.length → KV (ks.zip ys) (ks.zip us2) := by
  induction ys with
  | nil =>
    intro ks us us2 r1 r2 hl
    cases ks with
    | nil => exact .nil
    | cons _ _ => cases hl
  | cons y ys ih =>
    intro ks us us2 r1 r2 hl
    cases ks with
    | nil => cases hl
    | cons k ks =>
      cases r2 with
      | cons h2 t2 =>
        cases r1 with
        | cons h1 t1 => exact .cons ⟨rfl, h2⟩ (ih t1 t2 (by simpa using hl))
section
variable {X : Cx}
theorem pe_dictZ {a b : Expr} {ta : TA} {p p2 pos cpos : Pos} (hc : X.calm = true) (hg : Gl X "dict") (hm : X.mg "dict" = none) (hg2 : Gl X "zip") (hm2 : X.mg "zip" = none) (ha : PA X [a, b] ta)
    (hs : starEach [a, b] X.env = (false, eval a X.env) :: starEach [b] X.env) (hpl : (backTo cpos (starEach [b] X.env)).any (·.1) = false) :
    PE X (.Call (.Name "dict" p) [.Call (.Name "zip" p2) [a, b] [] cpos] [] pos) (tDictZ X.K ta) := by
  refine ⟨fun pins s σ H Q I h => ?_⟩
  refine Call_ (ld_blt I hg hm (show bootBuiltins "dict" = some (.type "dict") by decide +kernel) (PyProof.Rows.callWith_type1 (args_cons ?_ rfl) rfl))
  refine Call_ (ld_blt I hg2 hm2 PyProof.Rows.boot_zip (PyProof.Rows.callWith_type1 (thn (ha.run cpos pins s σ H _ I h) fun us s1 ⟨vs, H1, I1, r1, q1⟩ => ?_) hs hpl))
  obtain ⟨x, y, ks, ys, ev, hx, hy, hl, q⟩ := q1
  subst ev
  cases r1 with
  | cons rx rr =>
  cases rr with
  | cons ry rr =>
  cases rr
  cases rx
  cases ry
  obtain ⟨its, rv, px, hz⟩ := I1.tuple hx
  obtain ⟨its2, rv2, py, hz2⟩ := I1.tuple hy
  obtain ⟨o1, ho1, _⟩ := id px
  obtain ⟨o2, ho2, _⟩ := id py
  refine RZ.call_zipT (show s1.heap.IsTuple x its.toArray from px) (show s1.heap.IsTuple y its2.toArray from py) fun h' zz pI pO g1 g2 hsz hk => args_nil ?_
  have ap := PySem.W.ktu_apart s1.heap.objs.size x y (Heap.lt_size ho1) (Heap.lt_size ho2)
  have l1 := rv.length
  have l2 := rv2.length
  rw [List.length_map] at l1
  have prs : KV (ks.zip ys) (ks.zip its2) := zip_paired rv rv2 hl
  have hz' : its.length ≤ sizeLine := by rw [← l1]; simpa using hz
  refine PySem.call_dict_pairs (knd := mixKind X.prog X.w) (kvs := ks.zip its2) (s := { s1 with heap := h' }) (zp_arg _ _ _ _ _ x y ap its.toArray its2.toArray) (I1.ok.hd hc)
    ⟨zz, pI, ⟨_, _, pO⟩, g1, g2, (show s1.heap.IsTuple x its.toArray from px).at fun o e => hk _ o e, (show s1.heap.IsTuple y its2.toArray from py).at fun o e => hk _ o e⟩
    ⟨?len, fun i key v ⟨e1, e2⟩ => ?rel⟩ ?small fun h2 tk hd k => ?fin
  case len => simp [List.length_zip, l1]
  case small =>
    simp only [List.size_toArray]
    exact Nat.le_trans (Nat.min_le_left _ _) hz'
  case rel =>
    have e1 : its[i]? = some key := by simpa using e1
    have e2 : its2[i]? = some v := by simpa using e2
    have hi := (List.getElem?_eq_some_iff.mp e1).1
    have hk2 : ks[i]? = some ks[i] := List.getElem?_eq_getElem (by omega)
    obtain ⟨u, hu, ru⟩ := rv.get (show (ks.map kV)[i]? = some (kV ks[i]) by rw [List.getElem?_map, hk2]; rfl)
    rw [e1] at hu
    cases hu
    exact ⟨ks[i], by rw [List.getElem?_zip_eq_some]; exact ⟨hk2, e2⟩, kV_is ru⟩
  case fin =>
    have hle : s1.heap.objs.size ≤ h'.objs.size := hsz ▸ Nat.le_add_right _ 5
    have big : (h'.objs.size == sysModules) = false := beq_eq_false_iff_ne.mpr (Nat.ne_of_gt (Nat.lt_of_lt_of_le I1.big hle))
    have hlen : (mergeK [] (ks.zip ys)).length ≤ sizeLine := by
      refine Nat.le_trans (length_mergeK _ []) ?_
      rw [List.length_nil, Nat.zero_add, List.length_zip]
      omega
    have kept : ∀ c o, s1.heap.get? c = some o → h2.get? c = some o := fun c o e => k c o (fun hm => by
      have hlt : c < s1.heap.objs.size := Heap.lt_size e
      have hin : c = s1.heap.objs.size + 4 ∨ c = s1.heap.objs.size + 3 ∨ c = s1.heap.objs.size ∨ c = s1.heap.objs.size + 1 := by simpa using hm
      have e1 : (c : Nat) < s1.heap.objs.size := hlt
      rcases hin with hin | hin | hin | hin <;> exact absurd hlt (by rw [hin]; first | exact Nat.lt_irrefl _ | exact Nat.not_lt.mpr (Nat.le_add_right _ _))) (hk c o e)
    exact ⟨.ref h'.objs.size, upd H1 h'.objs.size (.dK (mergeK [] (ks.zip ys))), I1.laid (t' := tk) kept hle (show ObjOk X.prog X.w _ _ _ (.dK (mergeK [] (ks.zip ys))) from ⟨hlen, big, merged [] (ks.zip its2), KV.merge prs .nil, hd⟩), rfl, q _ (I1.hok.fresh hle)⟩
end
end L2

end
section
set_option maxHeartbeats 1000000
/-! LN11: dict(zip(a, b)); tuple(range(a, b)); list(range(n)) as a list that is changed; a callee that is computed. -/
namespace LC
open PySem PySem.Spec PyProof.Rows L2
def dictZM (ea : Env → M (List D)) : Env → M D := fun ρ => M.bind (ea ρ) fun ds => match ds with
  | [.tup xs, .tup ys] => match intsOf xs with
    | some ks => if ks.length = ys.length then newDict (mergeD [] (ks.zip ys)) else M.bad
    | none => M.bad
  | _ => M.bad
theorem zip_rel {A : At} : ∀ {ks : List Int} {ys : List D} {ws : List V}, RelL A ys ws → ks.length = ys.length → DiR A (ks.zip ys) ((ks.map (Sum.inl : Int → Key)).zip ws)
  | [], _, _, _, _ => by
    simp only [List.map_nil, List.zip_nil_left]
    rfl
  | k :: ks, [], _, _, h => by cases h
  | k :: ks, y :: ys, ws, r, h => by
    obtain ⟨v, q, rfl, r1, r2⟩ := r
    exact ⟨v, _, rfl, r1, zip_rel r2 (by simpa using h)⟩
section
variable {X : Cx} {K : PySem.W.Frag} {mg : Str → Option Value} {E : XK} {W : WX} {pos apos cpos p p2 : Pos} {a b : Expr} {eab : Env → M (List D)} {ea eb : Env → M D}
theorem sE_dictZ (eK : X.K = K) (hc : X.calm = true) (hg : Gl X "dict") (hm : X.mg "dict" = none) (hg2 : Gl X "zip") (hm2 : X.mg "zip" = none) (hs : isStar a = false) (hs2 : isStar b = false) (ha : PA X [a, b] (TAv K mg W eab)) :
    PE X (.Call (.Name "dict" p) [.Call (.Name "zip" p2) [a, b] [] cpos] [] pos) (TEv K mg W (dictZM eab)) := by
  subst eK
  refine (pe_dictZ hc hg hm hg2 hm2 ha (star_of hs) (by rw [star_of hs2]; rfl)).less fun σ H Q h => ?_
  obtain ⟨A, ρ, S, eK, em, eH, g, r1, h⟩ := h
  refine ⟨A, ρ, S, eK, em, eH, g, r1, Rdg.bind h fun ds S1 vs B _ x1 g1 q1 h1 => ?_⟩
  have eKB : B.K = X.K := x1.K.trans eK
  rcases ds with _ | ⟨d1, _ | ⟨d2, _ | ⟨d3, ds⟩⟩⟩
  · exact h1.elim
  · cases d1 <;> exact h1.elim
  · cases d1 with
    | tup xs =>
      cases d2 with
      | tup ys =>
        have hj : Post Rel B ((match intsOf xs with
          | some ks => if ks.length = ys.length then newDict (mergeD [] (ks.zip ys)) else M.bad
          | none => M.bad) S1) Q (fun c d H' => W c d σ H') := h1
        clear h1
        obtain ⟨v, w, rfl, r2, r3⟩ := q1.two'
        obtain ⟨q, vs, rfl, k1, k2, k3⟩ := r2
        obtain ⟨q', ws, rfl, k1', k2', k3'⟩ := r3
        cases e : intsOf xs with
        | none => rw [e] at hj; exact hj.elim
        | some ks =>
          rw [e] at hj
          have hj : Post Rel B ((if ks.length = ys.length then newDict (mergeD [] (ks.zip ys)) else M.bad) S1) Q (fun c d H' => W c d σ H') := hj
          split at hj
          · rename_i hl
            have ev := k3.ints e
            have ek : vs = (ks.map (Sum.inl : Int → Key)).map kV := by
              rw [ev, List.map_map]
              rfl
            have hz := zip_rel (ks := ks) k3' hl
            rw [ek] at k1
            refine ⟨q, q', ks.map (Sum.inl : Int → Key), ws, rfl, SqT.of k1, SqT.of k1', by rw [List.length_map, hl, k3'.len], fun l n => ?_⟩
            have xc := Ext.cell (A := B) (p := l) (.dK (mergeK [] ((ks.map (Sum.inl : Int → Key)).zip ws))) n
            have hl2 := mergeD_len (ks.zip ys) []
            have hD : DiR (B.cell l (.dK (mergeK [] ((ks.map (Sum.inl : Int → Key)).zip ws)))) (mergeD [] (ks.zip ys)) (mergeK [] ((ks.map (Sum.inl : Int → Key)).zip ws)) := DiR.step (xc.step g1) (DiR.merge hz (show DiR B [] [] from rfl))
            have hlen : (mergeD [] (ks.zip ys)).length ≤ sizeLine := by
              have h0 : ([] : List (Int × LC.D)).length = 0 := rfl
              have h3 : (ks.zip ys).length = ys.length := by rw [List.length_zip, hl, Nat.min_self]
              omega
            refine hj (.ref l) (B.cell l (.dK (mergeK [] ((ks.map (Sum.inl : Int → Key)).zip ws)))) xc (g1.cell' n ⟨_, rfl, hlen, hD⟩) ⟨l, ?_, rfl⟩
            show (B.m ++ [l])[S1.length]? = some l
            rw [← g1.len, List.getElem?_append_right (Nat.le_refl _), Nat.sub_self]
            rfl
          · exact hj.elim
      | _ => exact h1.elim
    | _ => exact h1.elim
  · cases d1 with
    | tup _ => cases d2 <;> exact h1.elim
    | _ => exact h1.elim
/-! ### tuple(range(a, b)) -/
theorem sE_rngT2 (eK : X.K = K) (hc : X.calm = true) (hg : Gl X "tuple") (hm : X.mg "tuple" = none) (hg2 : Gl X "range") (hm2 : X.mg "range" = none) (hs : isStar a = false) (hs2 : isStar b = false) (ha : PE X a (TEv K mg W ea)) (hb : PE X b (TEv K mg W eb)) :
    PE X (.Call (.Name "tuple" p) [.Call (.Name "range" p2) [a, b] [] cpos] [] pos) (TEv K mg W (rngT2 ea eb)) := by
  subst eK
  refine (pe_tupRg hc hg hm (prg_2 hg2 hm2 ha hb (star_of hs) (star_of hs2) (by rw [star_of hs2]; rfl)) rfl).less fun σ H Q h => ?_
  obtain ⟨A, ρ, S, eK, em, eH, g, r1, h⟩ := h
  refine ⟨A, ρ, S, eK, em, eH, g, r1, Rdg.bind h fun x S1 v B _ x1 g1 q1 h1 => ?_⟩
  refine ⟨B, ρ, S1, x1.K.trans eK, x1.mg.trans em, rfl, g1, r1.step (x1.step g), Rdg.bind h1 fun y S2 w C _ x2 g2 q2 h2 => ?_⟩
  cases x with
  | int i =>
    cases y with
    | int j =>
      have h2 : Post Rel C ((if -1000000 ≤ i ∧ i ≤ 1000000 ∧ -1000000 ≤ j ∧ j ≤ 1000000 then M.pure (LC.D.tup (rangeD i (j - i).toNat)) else M.bad) S2) Q (fun c d H' => W c d σ H') := h2
      split at h2
      · rename_i hj
        refine ⟨i, j, q1, q2, ⟨by omega, by omega, by omega, by omega, by omega⟩, fun q n => ?_⟩
        have hl : (rangeD i (j - i).toNat).length ≤ sizeLine := by rw [rangeD_length, ← line_eq]; show (j - i).toNat ≤ 16777216; omega
        have := new_tup g2 (rangeD_rel (A := C) i (j - i).toNat) hl h2 n
        unfold rgV
        exact this
      · exact h2.elim
    | _ => exact h2.elim
  | _ => exact h2.elim
/-! ### a callee that is computed -/
def callVM (fs : List Str) (cf : Str → List D → M D) (ef : Env → M D) (el : Env → M (List D)) : Env → M D := fun ρ => M.bind (ef ρ) fun f => match f with
  | .fn x => if fs.contains x = true then M.bind (el ρ) (cf x) else M.bad
  | _ => M.bad
theorem pe_callV {fe e : Expr} {rest : List Expr} {k : Nat} {tf : TE} {t : TA} {E : L2.St → XK} {G : Addr → Sp → Prop} (hG : ∀ f sp, G f sp → ∃ fd ps, FnOk X.prog X.w X.K X.mg X.base (L2.CX X.prog X.w) k f fd ps sp ∧ PySem.W.keepIn X.K (.ref f) = true ∧ Binds X.K fd ps []) (hr : Room k X.A) (hx : ∀ σ, PassesAt (L2.CX X.prog X.w) X σ (E σ))
    (hf : PE X fe tf) (ha : PA X (e :: rest) t) (ht : eval (.Call fe (e :: rest) [] pos) X.env = (do callWith pos (← eval fe X.env) [] (backTo pos (starEach (e :: rest) X.env)) (backToKw pos (keywordEach [] X.env)))) (he : starEach (e :: rest) X.env = (false, eval e X.env) :: starEach rest X.env) (hpl : (backTo pos (starEach rest X.env)).any (·.1) = false) :
    PE X (.Call fe (e :: rest) [] pos) (fun σ H Q => tf σ H fun y H1 => ∃ f sp, y = V.ref f ∧ G f sp ∧ t σ H1 fun vs H2 => sp vs H2 Q (E σ)) := by
  refine ⟨fun pins s σ H Q I h => ?_⟩
  refine Call_ (thn (hf.run pins s σ H _ I h) fun u s1 ⟨y, H1, I1, ry, f, sp, ey, g, q⟩ => ?_) ht
  subst ey
  obtain rfl : u = Value.ref f := ry
  obtain ⟨fd, ps, F, hk, hb⟩ := hG f sp g
  refine PySem.W.callWith_K (h₀ := X.base) I1.ok.mod.kin hk (thn (ha.run pos pins s1 σ H1 _ I1 q) fun us s2 ⟨vs, H2, I2, r, q2⟩ => ⟨I2.kIn, ?_⟩) he hpl
  exact run_fnS F hr hb (hx σ) I2 r q2
theorem sE_callC {fe e : Expr} {rest : List Expr} {k np : Nat} {fs : List Str} {cf : Str → List D → M D} {ef : Env → M D} {el : Env → M (List D)} (eK : X.K = K) (em : X.mg = mg) (F : ∀ x ∈ fs, FnAt X.prog X.w K mg X.base k x np (cf x)) (hr : Room k X.A) (tk : Takes X W) (hl : LenIs el np)
    (hst : ∀ z ∈ e :: rest, isStar z = false) (ht : eval (.Call fe (e :: rest) [] pos) X.env = (do callWith pos (← eval fe X.env) [] (backTo pos (starEach (e :: rest) X.env)) (backToKw pos (keywordEach [] X.env))))
    (hf : PE X fe (TEv K mg W ef)) (ha : PA X (e :: rest) (TAv K mg W el)) : PE X (.Call fe (e :: rest) [] pos) (TEv K mg W (callVM fs cf ef el)) := by
  subst eK em
  refine (pe_callV (G := fun f sp => ∃ x ∈ fs, X.mg x = some (.ref f) ∧ sp = spF X.K X.mg np (cf x)) (fun f sp ⟨x, hx, hm, es⟩ => ?_) hr (fun σ => passAt tk σ) hf ha ht (star_of (hst e List.mem_cons_self)) (star_any fun z hz => hst z (List.mem_cons_of_mem _ hz))).less fun σ H Q h => ?_
  · obtain ⟨a, fd, ps, hm2, hk, hb, _, F⟩ := F x hx
    have : a = f := by
      rw [hm] at hm2
      cases hm2
      rfl
    subst this
    subst es
    exact ⟨fd, ps, F, hk, hb⟩
  · obtain ⟨A, ρ, S, eK, em, eH, g, r1, h⟩ := h
    refine ⟨A, ρ, S, eK, em, eH, g, r1, Rdg.bind h fun x S1 v B _ x1 g1 q1 h1 => ?_⟩
    cases x with
    | fn x =>
      have h1 : Post Rel B ((if fs.contains x = true then M.bind (el ρ) (cf x) else M.bad) S1) Q (fun c d H' => W c d σ H') := h1
      split at h1
      · rename_i hx
        obtain ⟨p, hp, rfl⟩ := q1
        have emB : B.mg = X.mg := x1.mg.trans em
        refine ⟨p, _, rfl, ⟨x, by simpa using hx, by rw [← emB]; exact hp, rfl⟩, ?_⟩
        refine ⟨B, ρ, S1, x1.K.trans eK, emB, rfl, g1, r1.step (x1.step g), Rdg.bind h1 fun xs S2 vs C eq x2 g2 q2 h2 => ?_⟩
        exact ⟨by rw [q2.len]; exact hl _ _ _ _ eq, C, xs, S2, (x2.K.trans x1.K).trans eK, x2.mg.trans emB, rfl, g2, q2, h2⟩
      · exact h1.elim
    | _ => exact h1.elim
end
end LC

end
section
set_option maxHeartbeats 1000000
/-! LN12: forms of the text, seen as parts. -/
namespace LC
open PySem PySem.Spec PyProof.Rows L2
/-- f(g(a, b)) -/
def vwF2 (f g : Str) : Expr → Option (Expr × Expr)
  | .Call (.Name t _) [.Call (.Name r _) [a, b] [] _] [] _ => if t = f ∧ r = g then some (a, b) else none
  | _ => none
theorem vwF2_ok {f g : Str} {e a b : Expr} (h : vwF2 f g e = some (a, b)) : ∃ p1 p2 p3 p4, e = .Call (.Name f p1) [.Call (.Name g p2) [a, b] [] p3] [] p4 := by
  unfold vwF2 at h
  split at h
  · split at h
    · rename_i hh
      obtain ⟨rfl, rfl⟩ := hh
      cases h
      exact ⟨_, _, _, _, rfl⟩
    · cases h
  · cases h
/-- x[i](v, ..) -/
def vwCC : Expr → Option (Expr × Expr × List Expr)
  | .Call (.Subscript a i p) (v :: vs) [] _ => some (.Subscript a i p, v, vs)
  | _ => none
theorem vwCC_ok {e f v : Expr} {vs : List Expr} (h : vwCC e = some (f, v, vs)) : ∃ a i p p4, f = .Subscript a i p ∧ e = .Call (.Subscript a i p) (v :: vs) [] p4 := by
  unfold vwCC at h
  split at h
  · cases h
    exact ⟨_, _, _, _, rfl, rfl⟩
  · cases h
/-- f(g(a)) -/
def vwF1 (f g : Str) : Expr → Option Expr
  | .Call (.Name t _) [.Call (.Name r _) [a] [] _] [] _ => if t = f ∧ r = g then some a else none
  | _ => none
theorem vwF1_ok {f g : Str} {e a : Expr} (h : vwF1 f g e = some a) : ∃ p1 p2 p3 p4, e = .Call (.Name f p1) [.Call (.Name g p2) [a] [] p3] [] p4 := by
  unfold vwF1 at h
  split at h
  · split at h
    · rename_i hh
      obtain ⟨rfl, rfl⟩ := hh
      cases h
      exact ⟨_, _, _, _, rfl⟩
    · cases h
  · cases h
/-- o.m(a, ..) -/
def vwM (m : Str) : Expr → Option (Expr × List Expr)
  | .Call (.Attribute o n ap) vs [] cp => if n = m ∧ (ap.endLine == cp.line) = true then some (o, vs) else none
  | _ => none
theorem vwM_ok {m : Str} {e o : Expr} {vs : List Expr} (h : vwM m e = some (o, vs)) : ∃ ap cp, e = .Call (.Attribute o m ap) vs [] cp ∧ (ap.endLine == cp.line) = true := by
  unfold vwM at h
  split at h
  · split at h
    · rename_i hh
      obtain ⟨rfl, h2⟩ := hh
      cases h
      exact ⟨_, _, rfl, h2⟩
    · cases h
  · cases h
end LC

end
section
set_option maxHeartbeats 2000000
/-! LC15: the language, its evaluator, the check against the text, and that the check is enough. -/
namespace LC
open PySem PySem.Spec PyProof.Rows L2
inductive BT where
  | int | bool | tuple | str | list | dict
  deriving DecidableEq
def BT.nm : BT → String
  | .int => "int" | .bool => "bool" | .tuple => "tuple" | .str => "str" | .list => "list" | .dict => "dict"
theorem bt_boot (b : BT) : bootBuiltins (b.nm : Str) = some (.type b.nm) ∧ (b.nm : Str) ≠ "__name__" ∧ ((b.nm : Str) == ("__debug__" : Str)) = false := by
  cases b <;> decide +kernel
theorem bf_boot (b : BF) : bootBuiltins (b.id : Str) = some b.val ∧ (b.id : Str) ≠ "__name__" ∧ ((b.id : Str) == ("__debug__" : Str)) = false := by
  cases b <;> decide +kernel
theorem bf_val (b : BF) : (∃ id, b.val = .builtin id) ∨ ∃ T, b.val = .type T := by
  cases b <;> first | exact .inl ⟨_, rfl⟩ | exact .inr ⟨_, rfl⟩
mutual
inductive LE where
  | var (i : Nat)
  | cst (d : D)
  | gfn (x : Str)
  | ty (b : BT)
  | bin (op : Operator) (a b : LE)
  | neg (a : LE)
  | nt (a : LE)
  | cmp (op : CmpOp) (a b : LE)
  | chn (op op2 : CmpOp) (a b c : LE)
  | bop (isAnd : Bool) (es : LAs)
  | ite (c a b : LE)
  | tup (es : LAs)
  | lst (es : LAs)
  | lstC (es : LAs)
  | addC (a b : LE)
  | listC (es : LAs)
  | idx (a i : LE)
  | slc (a : LE) (lo hi : LO)
  | call (f : Str) (es : LAs)
  | blt (b : BF) (es : LAs)
  | isi (es : LAs)
  | isx (rs : List Str) (y : Str) (a : LE)
  | isv (rs : List Str) (a : LE)
  | lm (m : LM) (o e : LE)
  | rngT1 (e : LE)
  | dget (a k : LE)
  | din (k d : LE)
  | dict (a : LE)
  | dictZ (es : LAs)
  | rngT2 (a b : LE)
  | callC (fs : List Str) (f a : LE) (es : LAs)
  | unk
  | lc (vs : List Nat) (s : LI) (tg : LT) (c : LO) (e : LE)
  | lc2 (vs vs1 : List Nat) (s : LI) (tg : LT) (c : LO) (s1 : LI) (tg1 : LT) (c1 : LO) (e : LE)
inductive LAs where
  | nil
  | cons (e : LE) (es : LAs)
inductive LO where
  | none
  | some (e : LE)
inductive LI where
  | of (e : LE)
  | rng (es : LAs)
  | enm (e : LE)
end
mutual
inductive LS where
  | set (i : Nat) (e : LE)
  | setLc (i : Nat) (e : LE)
  | asg (tg : LT) (e : LE)
  | par (i j : Nat) (es : LAs)
  | stI (o i e : LE)
  | ex (e : LE)
  | ret (e : LE)
  | ifs (c : LE) (a b : LB)
  | whl (c : LE) (b : LB)
  | for_ (s : LI) (tg : LT) (b : LB)
  | rai (x : Str)
  | app (o e : LE)
  | tryE (i : Nat) (x : Str) (rs : List Str) (n y : Nat) (e : LE)
  | sunk
  | pass
inductive LB where
  | nil
  | cons (s : LS) (b : LB)
end
def LAs.len : LAs → Nat
  | .nil => 0
  | .cons _ es => es.len + 1

/-! ### isinstance -/
def tyOf (S : Store) : D → Option String
  | .non => some "NoneType"
  | .bl _ => some "bool"
  | .int _ => some "int"
  | .str _ => some "str"
  | .tup _ => some "tuple"
  | .lst _ => some "list"
  | .cell n => match S[n]? with
    | some (.lst _) => some "list"
    | some (.dI _) => some "dict"
    | some (.dT _) => some "dict"
    | _ => none
  | _ => none
def fIsi : Store → List D → Option D
  | S, [x, .ty n] => (tyOf S x).bind fun t => (kitB t n).map D.bl
  | _, _ => none
theorem tyx_of {A : At} {S : Store} {x : D} {v : V} {t : String} (g : Gd A S) (r : Rel A x v) (h : tyOf S x = some t) : TyX A.K A.H v (.type t) := by
  cases x with
  | non => cases h; rw [show v = V.non from r]; exact .base .non
  | bl b => cases h; rw [show v = V.bl b from r]; exact .base (.bl b)
  | int b => cases h; rw [show v = V.int b from r]; exact .base (.int b)
  | str b => cases h; rw [show v = V.str b from r]; exact .base (.str b)
  | tup b =>
    cases h
    obtain ⟨p, vs, rfl, h1, _⟩ := r
    exact .base (.tup h1)
  | lst b =>
    cases h
    obtain ⟨p, vs, rfl, h1, _⟩ := r
    rcases h1 with ⟨_, _, h1 | ⟨o, h1⟩⟩ | ⟨o, its, n, h1, h2, _⟩
    · exact .base (.lst h1)
    · exact .base (.frz h1)
    · exact .kList h1 h2
  | cell n =>
    obtain ⟨p, h1, rfl⟩ := r
    have h' : (match S[n]? with
      | some (.lst _) => some "list"
      | some (.dI _) => some "dict"
      | some (.dT _) => some "dict"
      | _ => none) = some t := h
    cases e : S[n]? with
    | none => rw [e] at h'; cases h'
    | some c =>
      rw [e] at h'
      have k := g.ok n c p e h1
      cases c with
      | lst _ => cases h'; obtain ⟨vs, e1, _⟩ := k; exact .base (.lst e1)
      | dI _ => cases h'; obtain ⟨vs, e1, _⟩ := k; exact .base (.dK e1)
      | dT _ => cases h'; obtain ⟨vs, e1, _⟩ := k; exact .base (.dT e1)
      | ins _ _ => cases h'
  | _ => cases h
theorem snd_isi {K : PySem.W.Frag} : SndA K fIsi (rIsi K) := by
  intro A S ds d vs Q W eK g r e h
  subst eK
  have key : ∃ x n, ds = [x, .ty n] ∧ ((tyOf S x).bind fun t => (kitB t n).map D.bl) = some d := by
    rcases ds with _ | ⟨x, _ | ⟨y, _ | ⟨z, r'⟩⟩⟩
    · exact absurd (show (none : Option D) = some d from e) (by simp)
    · exact absurd (show (none : Option D) = some d from e) (by simp)
    · cases y with
      | ty n => exact ⟨x, n, rfl, e⟩
      | _ => exact absurd (show (none : Option D) = some d from e) (by simp)
    · cases y <;> exact absurd (show (none : Option D) = some d from e) (by simp)
  obtain ⟨x, n, rfl, e'⟩ := key
  obtain ⟨v, w, rfl, r1, r2⟩ := r.two'
  obtain ⟨t, et, e'⟩ := Option.bind_eq_some_iff.mp e'
  obtain ⟨b, ek, rfl⟩ := Option.map_eq_some_iff.mp e'
  exact ⟨v, w, .type t, .type n, b, rfl, by rw [show w = V.ty n from r2]; exact .ty n, tyx_of g r1 et, kit_ty ek, val_ok g h rfl⟩

/-! ### the evaluator -/
mutual
def evE (cf : Str → List D → M D) : LE → Env → M D
  | .var i => fun ρ => M.opt (getE ρ i)
  | .cst d => fun _ => M.pure d
  | .gfn x => fun _ => M.pure (.fn x)
  | .ty b => fun _ => M.pure (.ty b.nm)
  | .bin op a b => op2 (binD op) (evE cf a) (evE cf b)
  | .neg a => un1 negD (evE cf a)
  | .nt a => un1 notD (evE cf a)
  | .cmp op a b => op2 (cmpB op) (evE cf a) (evE cf b)
  | .chn op op' a b c => chnM (cmpB op) (cmpB op') (evE cf a) (evE cf b) (evE cf c)
  | .bop t es => evB cf t es
  | .ite c a b => iteM (evE cf c) (evE cf a) (evE cf b)
  | .tup es => disp .tup (evA cf es)
  | .lst es => disp .lst (evA cf es)
  | .lstC es => fun ρ => M.bind (evA cf es ρ) mkCell
  | .addC a b => addC (evE cf a) (evE cf b)
  | .listC es => listC (evA cf es)
  | .idx a i => op2 idxD (evE cf a) (evE cf i)
  | .slc a lo hi => sl2 (evE cf a) (evO cf lo) (evO cf hi)
  | .call f .nil => fun _ => M.nox (cf f [])
  | .call f (.cons e es) => fun ρ => M.bind (argsCons (evE cf e) (evA cf es) ρ) (cf f)
  | .blt b es => callA (fB b) (evA cf es)
  | .isi es => callA fIsi (evA cf es)
  | .isx rs y a => callA (fIsx rs y) (argsCons (evE cf a) (argsCons (fun _ => M.pure (.fn y)) argsNil))
  | .isv rs a => callA (fIsv rs) (argsCons (evE cf a) (argsCons (fun _ => M.pure (.ty "ValueError")) argsNil))
  | .lm m o e => lmM m (evE cf o) (evE cf e)
  | .rngT1 e => LC.rngT1 (evE cf e)
  | .dget a k => dgetM (evE cf a) (evE cf k)
  | .din k d => dinM (evE cf k) (evE cf d)
  | .dict a => dictM (evE cf a)
  | .dictZ es => dictZM (evA cf es)
  | .rngT2 a b => LC.rngT2 (evE cf a) (evE cf b)
  | .callC fs f a es => callVM fs cf (evE cf f) (argsCons (evE cf a) (evA cf es))
  | .unk => fun _ => M.bad
  | .lc vs s tg c e => lcM vs (evI cf s) tg (evO cf c) (evE cf e)
  | .lc2 vs vs1 s tg c s1 tg1 c1 e => lc2M vs vs1 (evI cf s) tg (evO cf c) (evI cf s1) tg1 (evO cf c1) (evE cf e)
def evA (cf : Str → List D → M D) : LAs → Env → M (List D)
  | .nil => argsNil
  | .cons e es => argsCons (evE cf e) (evA cf es)
def evB (cf : Str → List D → M D) (t : Bool) : LAs → Env → M D
  | .nil => fun _ => M.bad
  | .cons e .nil => evE cf e
  | .cons e (.cons e2 es) => if t = true then andM (evE cf e) (evB cf t (.cons e2 es)) else orM (evE cf e) (evB cf t (.cons e2 es))
def evO (cf : Str → List D → M D) : LO → Option (Env → M D)
  | .none => none
  | .some e => some (evE cf e)
def evI (cf : Str → List D → M D) : LI → Env → M Src
  | .of e => walkM (evE cf e)
  | .rng es => rngM (evA cf es)
  | .enm e => enmM (evE cf e)
end
mutual
def exS (cf : Str → List D → M D) : LS → Env → M Fl
  | .set i e => xSet i (evE cf e)
  | .setLc i e => xSet i (evE cf e)
  | .asg tg e => xAsg tg (evE cf e)
  | .par i j es => xAsg (.tp [i, j]) (disp .tup (evA cf es))
  | .stI o i e => xStI (evE cf o) (evE cf i) (evE cf e)
  | .ex e => xEx (evE cf e)
  | .ret e => xRet (evE cf e)
  | .ifs c a b => xIf (evE cf c) (exB cf a) (exB cf b)
  | .whl c b => xWhile (evE cf c) (exB cf b)
  | .for_ s tg b => xFor (evI cf s) tg (exB cf b)
  | .rai x => xRaise x
  | .app o e => xApp (evE cf o) (evE cf e)
  | .tryE i _ rs n y e => xTry i rs n y (evE cf e)
  | .sunk => fun _ => M.bad
  | .pass => xPass
def exB (cf : Str → List D → M D) : LB → Env → M Fl
  | .nil => xPass
  | .cons s b => xSeq (exS cf s) (exB cf b)
end

/-! ### the check -/
structure Tb where
  ar : Str → Option Nat
  free : Str → Bool
  glo : Str → Bool
  exc : Str → Bool
  top : Str
  rs : List Str
  jud : Str → Bool
structure Ct where
  N : List Str
  sc : Scope
  fn : Str → Bool
  T : Tb
def visB (sc : Scope) (x : Str) : Bool := match sc.names.lookup x with
  | some .local => true
  | some .cell => true
  | some .free => true
  | _ => false
def glB (sc : Scope) (x : Str) : Bool := sc.names.lookup x == some .globalImplicit
def plainN (x : Str) : Bool := !(x == ("__debug__" : Str)) && !(x == ("__classdict__" : Str))
def notSetE : Expr → Bool
  | .Set .. => false
  | _ => true
def ownOf (N : List Str) (vs : List Nat) : List (Str × Nat) := vs.map fun i => (N.getD i Str.empty, i)
def chkT (c : Ct) : LT → Expr → Bool
  | .nm i, e => namesOk c.N c.sc c.fn [e] [i]
  | .tp is, .Tuple es _ _ => namesOk c.N c.sc c.fn es is
  | .tp _, _ => false
def Ct.blk (c : Ct) (scope : Scope) : Ct := { c with sc := relS scope c.sc, fn := fun x => scope.names.lookup x == some .cell }
/-- what may stand as a test -/
def tokB : LE → Bool
  | .ite .. => false
  | _ => true
def tokA : LAs → Bool
  | .nil => true
  | .cons e es => tokB e && tokA es
mutual
def chkE (c : Ct) : LE → Expr → Bool
  | .var i, .Name x _ => decide (c.N[i]? = some x) && (visB c.sc x && plainN x)
  | .cst d, .Constant k _ _ => cstOk k d
  | .gfn x, .Name y _ => decide (x = y) && (glB c.sc y && (c.T.glo y && plainN y))
  | .ty b, .Name y _ => decide (y = (b.nm : Str)) && (glB c.sc y && c.T.free y)
  | .bin op a b, .BinOp l o r _ => decide (o = op) && (chkE c a l && chkE c b r)
  | .neg a, .UnaryOp .USub e _ => chkE c a e
  | .nt a, .UnaryOp .Not e _ => tokB a && chkE c a e
  | .cmp op a b, .Compare l [o] [r] _ => decide (o = op) && (notSetE r && (chkE c a l && chkE c b r))
  | .chn op op2 a b d, .Compare l [o, o2] [m, r] _ => decide (o = op) && (decide (o2 = op2) && (notSetE r && (chkE c a l && (chkE c b m && chkE c d r))))
  | .bop t es, .BoolOp o vs _ => decide (o = (if t then .And else .Or)) && (tokA es && chkA c es vs)
  | .ite t a b, .IfExp t' a' b' _ => tokB t && (chkE c t t' && (chkE c a a' && chkE c b b'))
  | .tup es, .Tuple vs _ _ => decide (es.len ≤ 1000) && chkA c es vs
  | .lst es, .List vs _ => decide (es.len ≤ 1000) && chkA c es vs
  | .lstC es, .List vs _ => decide (es.len ≤ 1000) && chkA c es vs
  | .addC a b, .BinOp l .Add r _ => chkE c a l && chkE c b r
  | .listC es, .Call (.Name x _) (v :: vs) [] _ => decide (x = ("list" : Str)) && (glB c.sc x && (c.T.free x && chkA c es (v :: vs)))
  | .idx a i, .Subscript e s _ => notSl s && (chkE c a e && chkE c i s)
  | .slc a lo hi, .Subscript e (.Slice l h none _) _ => chkE c a e && (chkO c lo l && chkO c hi h)
  | .call f es, .Call (.Name x _) vs [] _ => decide (f = x) && (glB c.sc f && (decide (c.T.ar f = some es.len) && (plainN f && chkA c es vs)))
  | .blt b es, .Call (.Name x _) (v :: vs) [] _ => decide (x = (b.id : Str)) && (glB c.sc x && (c.T.free x && chkA c es (v :: vs)))
  | .isi es, .Call (.Name x _) (v :: vs) [] _ => decide (x = ("isinstance" : Str)) && (glB c.sc x && (c.T.free x && chkA c es (v :: vs)))
  | .isx rs y a, .Call (.Name f _) [a', .Name y' _] [] _ => decide (f = ("isinstance" : Str)) && (decide (y' = y) && (glB c.sc f && (c.T.free f && (glB c.sc y && (plainN y && (c.T.jud y && (c.T.glo y && (rs.all (fun z => c.T.rs.contains z) && chkE c a a'))))))))
  | .isv rs a, .Call (.Name f _) [a', .Name y' _] [] _ => decide (f = ("isinstance" : Str)) && (decide (y' = ("ValueError" : Str)) && (glB c.sc f && (c.T.free f && (glB c.sc y' && (c.T.free y' && (rs.all (fun z => c.T.rs.contains z) && chkE c a a'))))))
  | .lm m o e, .Call (.Attribute o' nm ap) [e'] [] cp => decide (nm = (m.nm : Str)) && (baseB o' && ((ap.endLine == cp.line) && (chkE c o o' && chkE c e e')))
  | .rngT1 e, .Call (.Name t _) [.Call (.Name r _) [e'] [] _] [] _ => decide (t = ("tuple" : Str)) && (decide (r = ("range" : Str)) && (glB c.sc t && (c.T.free t && (glB c.sc r && (c.T.free r && chkE c e e')))))
  | .dget a k, .Subscript e s _ => notSl s && (chkE c a e && chkE c k s)
  | .din k d, .Compare l [.In] [r] _ => notSetE r && (chkE c k l && chkE c d r)
  | .dict a, .Call (.Name x _) [v] [] _ => decide (x = ("dict" : Str)) && (glB c.sc x && (c.T.free x && chkE c a v))
  | .dictZ es, e => match vwF2 "dict" "zip" e with
    | some (a, b) => glB c.sc "dict" && (c.T.free "dict" && (glB c.sc "zip" && (c.T.free "zip" && chkA c es [a, b])))
    | none => false
  | .rngT2 x y, e => match vwF2 "tuple" "range" e with
    | some (a, b) => glB c.sc "tuple" && (c.T.free "tuple" && (glB c.sc "range" && (c.T.free "range" && (chkE c x a && chkE c y b))))
    | none => false
  | .callC fs f a es, e => match vwCC e with
    | some (g, v, vs) => fs.all (fun x => decide (c.T.ar x = some (es.len + 1))) && (chkE c f g && (chkE c a v && chkA c es vs))
    | none => false
  | .unk, e => !isStar e
  | .lc vs s tg co e, .ListComp elt [⟨t, it, ifs, 0⟩] scope _ => blkC c.N c.sc scope (ownOf c.N vs) && (tg.slots.all (fun i => vs.contains i) && (notSetE it && (chkI c s t it && (chkT (c.blk scope) tg t && (chkF (c.blk scope) co ifs && chkE (c.blk scope) e elt)))))
  | .lc2 vs vs1 s tg co s1 tg1 co1 e, .ListComp elt [⟨t, it, ifs, 0⟩, ⟨t1, it1, ifs1, 0⟩] scope _ => blkC c.N c.sc scope (ownOf c.N vs) && (tg.slots.all (fun i => vs.contains i) && (notSetE it && (chkI c s t it && (chkT (c.blk scope) tg t && (chkF (c.blk scope) co ifs &&
      (vs1.all (fun i => vs.contains i) && (tg1.slots.all (fun i => vs1.contains i) && (notSetE it1 && (chkI (c.blk scope) s1 t1 it1 && (chkT (c.blk scope) tg1 t1 && (chkF (c.blk scope) co1 ifs1 && chkE (c.blk scope) e elt)))))))))))
  | _, _ => false
def chkA (c : Ct) : LAs → List Expr → Bool
  | .nil, [] => true
  | .cons e es, v :: vs => chkE c e v && chkA c es vs
  | _, _ => false
/-- a part of a slice -/
def chkO (c : Ct) : LO → Option Expr → Bool
  | .none, none => true
  | .some e, some v => chkE c e v
  | _, _ => false
/-- a clause's test -/
def chkF (c : Ct) : LO → List Expr → Bool
  | .none, [] => true
  | .some e, [v] => tokB e && chkE c e v
  | _, _ => false
def chkI (c : Ct) : LI → Expr → Expr → Bool
  | .of e, _, v => chkE c e v
  | .enm e, .Tuple .., .Call (.Name x _) [v] [] _ => decide (x = ("enumerate" : Str)) && (glB c.sc x && (c.T.free x && chkE c e v))
  | .rng es, _, .Call (.Name x _) vs [] _ => decide (x = ("range" : Str)) && (glB c.sc x && (c.T.free x && ((vs.length == 1 || vs.length == 2) && chkA c es vs)))
  | _, _, _ => false
end
def notLc : Expr → Bool
  | .ListComp .. => false
  | .SetComp .. => false
  | .DictComp .. => false
  | _ => true
def notSeqE : Expr → Bool
  | .Tuple .. => false
  | .List .. => false
  | _ => true
def setOk (c : Ct) (i : Nat) (x : Str) : Bool := decide (c.N[i]? = some x) && (c.sc.names.lookup x == some .local || (c.sc.names.lookup x == some .cell && c.fn x))
/-- how names are given a pair -/
def asgOk (sc : Scope) (ts : List Expr) : Expr → Bool
  | .Tuple vs _ _ => vs.all (fun e => !isStar e) && swNo sc ts vs
  | v => notSeqE v
mutual
def chkS (c : Ct) : LS → Stmt → Bool
  | .set i e, .Assign [.Name x _] v _ => setOk c i x && ((notLc v || (match v with | .ListComp .. => !(c.sc.names.lookup x == some .local) | _ => false)) && chkE c e v)
  | .setLc i e, .Assign [.Name x py] (.ListComp elt gs scope p) _ => decide (c.N[i]? = some x) && (c.sc.names.lookup x == some .local && ((py.line == p.line) && (!(scope.names.any fun (n, k) => n == x && (k == .local || k == .cell)) && chkE c e (.ListComp elt gs scope p))))
  | .asg (.tp is) e, .Assign [.Tuple ts _ _] v _ => namesOk c.N c.sc c.fn ts is && (notLc v && (asgOk c.sc ts v && chkE c e v))
  | .par i j es, .Assign [.Tuple [.Name x px, .Name y py] _ _] (.Tuple [a, b] _ _) _ => decide (c.N[i]? = some x) && (decide (c.N[j]? = some y) && (decide (i ≠ j) && (c.sc.names.lookup x == some .local && (c.sc.names.lookup y == some .local && (decide (px.line = py.line) && (decide (x ≠ y) && (swYes c.sc [.Name x px, .Name y py] [a, b] && chkA c es [a, b])))))))
  | .stI o i e, .Assign [.Subscript o' i' _] v _ => notSl i' && (chkE c o o' && (chkE c i i' && chkE c e v))
  | .ex e, .Expr v _ => notLc v && chkE c e v
  | .ret e, .Return (some v) _ => chkE c e v
  | .ifs t a b, .If t' a' b' _ => tokB t && (chkE c t t' && (chkB c a a' && chkB c b b'))
  | .whl t b, .While t' b' [] _ => tokB t && (chkE c t t' && chkB c b b')
  | .for_ s tg b, .For t it b' [] _ => notSetE it && (chkI c s t it && (chkT c tg t && chkB c b b'))
  | .rai x, .Raise (some (.Call (.Name y _) [.Constant (.str _) _ _] [] _)) none _ => decide (x = y) && (glB c.sc y && (c.T.exc y && plainN y))
  | .app o e, .Expr (.Call (.Attribute o' nm ap) [e'] [] cp) _ => decide (nm = ("append" : Str)) && (baseB o' && ((ap.endLine == cp.line) && (chkE c o o' && chkE c e e')))
  | .tryE i x rs n y e, .Try [.Assign [.Name x1 _] v _] [.ExceptHandler (some (.Name xx _)) (some xn) [.Assign [.Name xy _] (.Name xn2 _) _] _] [] [] _ =>
    decide (xx = x) && (decide (x = c.T.top) && (decide (xn2 = xn) && (decide (n ≠ y) && (setOk c i x1 && (setOk c y xy && (decide (c.N[n]? = some xn) && (c.sc.names.lookup xn == some .local && (plainN xn && (glB c.sc x && (plainN x && (c.T.glo x && (rs.all (fun z => c.T.rs.contains z) && (notLc v && chkE c e v)))))))))))))
  | .sunk, _ => true
  | .pass, .Pass _ => true
  | _, _ => false
def chkB (c : Ct) : LB → List Stmt → Bool
  | .nil, [] => true
  | .cons s b, st :: sts => chkS c s st && chkB c b sts
  | _, _ => false
end
end LC

end
section
set_option maxHeartbeats 2000000
/-! LC16: the check is enough: expressions. -/
namespace LC
open PySem PySem.Spec PyProof.Rows L2
structure OkC (X : Cx) (c : Ct) (cf : Str → List D → M D) (K : PySem.W.Frag) (mg : Str → Option Value) (k : Nat) : Prop where
  eN : X.N = c.N
  es : X.env.scope = c.sc
  kind : c.sc.kind = .function
  fn : ∀ x, c.fn x = true → X.fn x = true
  eK : X.K = K
  em : X.mg = mg
  nd : X.N.Nodup
  calm : X.calm = true
  room : Room (k + 1) X.A
  fns : ∀ f n, c.T.ar f = some n → FnAt X.prog X.w K mg X.base (k + 1) f n (cf f)
  free : ∀ x, c.T.free x = true → mg x = none
  glo : ∀ x, c.T.glo x = true → ∃ a, mg x = some (.ref a)
  exc : ∀ x, c.T.exc x = true → ExcF K mg x
  cau : ∀ z ∈ c.T.rs, Caught K mg c.T.top z
  judg : ∀ y, c.T.jud y = true → ∀ z ∈ c.T.rs, Judged K mg y z
  judv : ∀ z ∈ c.T.rs, JudgedV K mg z
theorem OkC.blk {X : Cx} {c : Ct} {cf : Str → List D → M D} {K : PySem.W.Frag} {mg : Str → Option Value} {k : Nat} (o : OkC X c cf K mg k) {scope : Scope} (hk : scope.kind = .function) (s : Shared) (H : Hp) (C : Addr) (cl : List (Str × Addr)) (fp : List Addr) :
    OkC (X.blk s H scope (compEnvC scope cl C X.env) fp) (c.blk scope) cf K mg k where
  eN := o.eN
  es := by
    show relS scope X.env.scope = relS scope c.sc
    rw [o.es]
  kind := hk
  fn := fun x h => h
  eK := o.eK
  em := o.em
  nd := o.nd
  calm := o.calm
  room := o.room
  fns := o.fns
  free := o.free
  glo := o.glo
  exc := o.exc
  cau := o.cau
  judg := o.judg
  judv := o.judv
theorem OkC.tr {X : Cx} {c : Ct} {cf : Str → List D → M D} {K : PySem.W.Frag} {mg : Str → Option Value} {k : Nat} (o : OkC X c cf K mg k) (qn : List (Addr × Obj)) (ye : Value → Shared → Prop) : OkC (X.tr qn ye) c cf K mg k :=
  ⟨o.eN, o.es, o.kind, o.fn, o.eK, o.em, o.nd, o.calm, o.room, o.fns, o.free, o.glo, o.exc, o.cau, o.judg, o.judv⟩
/-! ### the text's forms -/
theorem ba2 {a b : Bool} (h : (a && b) = true) : a = true ∧ b = true := Bool.and_eq_true_iff.mp h
section
variable {c : Ct}
theorem inv_var {i : Nat} {e : Expr} (h : chkE c (.var i) e = true) : ∃ x p, e = .Name x p ∧ c.N[i]? = some x ∧ visB c.sc x = true ∧ plainN x = true := by
  cases e <;> first | exact absurd h Bool.false_ne_true | skip
  obtain ⟨h1, h2⟩ := ba2 h
  obtain ⟨h2, h3⟩ := ba2 h2
  exact ⟨_, _, rfl, of_decide_eq_true h1, h2, h3⟩
theorem inv_cst {d : D} {e : Expr} (h : chkE c (.cst d) e = true) : ∃ k j p, e = .Constant k j p ∧ cstOk k d = true := by
  cases e <;> first | exact absurd h Bool.false_ne_true | skip
  exact ⟨_, _, _, rfl, h⟩
theorem inv_gfn {x : Str} {e : Expr} (h : chkE c (.gfn x) e = true) : ∃ p, e = .Name x p ∧ glB c.sc x = true ∧ c.T.glo x = true ∧ plainN x = true := by
  cases e <;> first | exact absurd h Bool.false_ne_true | skip
  obtain ⟨h1, h2⟩ := ba2 h
  obtain ⟨h2, h3⟩ := ba2 h2
  obtain ⟨h3, h4⟩ := ba2 h3
  have := of_decide_eq_true h1
  subst this
  exact ⟨_, rfl, h2, h3, h4⟩
theorem inv_ty {b : BT} {e : Expr} (h : chkE c (.ty b) e = true) : ∃ p, e = .Name (b.nm : Str) p ∧ glB c.sc b.nm = true ∧ c.T.free b.nm = true := by
  cases e <;> first | exact absurd h Bool.false_ne_true | skip
  obtain ⟨h1, h2⟩ := ba2 h
  obtain ⟨h2, h3⟩ := ba2 h2
  have := of_decide_eq_true h1
  subst this
  exact ⟨_, rfl, h2, h3⟩
theorem inv_bin {op : Operator} {a b : LE} {e : Expr} (h : chkE c (.bin op a b) e = true) : ∃ l r p, e = .BinOp l op r p ∧ chkE c a l = true ∧ chkE c b r = true := by
  cases e <;> first | exact absurd h Bool.false_ne_true | skip
  obtain ⟨h1, h2⟩ := ba2 h
  obtain ⟨h2, h3⟩ := ba2 h2
  have := of_decide_eq_true h1
  subst this
  exact ⟨_, _, _, rfl, h2, h3⟩
theorem inv_neg {a : LE} {e : Expr} (h : chkE c (.neg a) e = true) : ∃ l p, e = .UnaryOp .USub l p ∧ chkE c a l = true := by
  cases e with
  | UnaryOp o l p =>
    cases o <;> first | exact absurd h Bool.false_ne_true | skip
    exact ⟨_, _, rfl, h⟩
  | _ => exact absurd h Bool.false_ne_true
theorem inv_nt {a : LE} {e : Expr} (h : chkE c (.nt a) e = true) : ∃ l p, e = .UnaryOp .Not l p ∧ tokB a = true ∧ chkE c a l = true := by
  cases e with
  | UnaryOp o l p =>
    cases o <;> first | exact absurd h Bool.false_ne_true | skip
    exact ⟨_, _, rfl, ba2 h⟩
  | _ => exact absurd h Bool.false_ne_true
theorem inv_cmp {op : CmpOp} {a b : LE} {e : Expr} (h : chkE c (.cmp op a b) e = true) : ∃ l r p, e = .Compare l [op] [r] p ∧ notSetE r = true ∧ chkE c a l = true ∧ chkE c b r = true := by
  cases e with
  | Compare l os rs p =>
    rcases os with _ | ⟨o, _ | ⟨o2, os⟩⟩
    · exact absurd h Bool.false_ne_true
    · rcases rs with _ | ⟨r, _ | ⟨r2, rs⟩⟩
      · exact absurd h Bool.false_ne_true
      · obtain ⟨h1, h2⟩ := ba2 h
        obtain ⟨h2, h3⟩ := ba2 h2
        obtain ⟨h3, h4⟩ := ba2 h3
        have := of_decide_eq_true h1
        subst this
        exact ⟨_, _, _, rfl, h2, h3, h4⟩
      · exact absurd h Bool.false_ne_true
    · exact absurd h Bool.false_ne_true
  | _ => exact absurd h Bool.false_ne_true
theorem inv_chn {op op2 : CmpOp} {a b d : LE} {e : Expr} (h : chkE c (.chn op op2 a b d) e = true) : ∃ l m r p, e = .Compare l [op, op2] [m, r] p ∧ notSetE r = true ∧ chkE c a l = true ∧ chkE c b m = true ∧ chkE c d r = true := by
  cases e with
  | Compare l os rs p =>
    rcases os with _ | ⟨o, _ | ⟨o2, _ | ⟨o3, os⟩⟩⟩
    · exact absurd h Bool.false_ne_true
    · exact absurd h Bool.false_ne_true
    · rcases rs with _ | ⟨r, _ | ⟨r2, _ | ⟨r3, rs⟩⟩⟩
      · exact absurd h Bool.false_ne_true
      · exact absurd h Bool.false_ne_true
      · obtain ⟨h1, h2⟩ := ba2 h
        obtain ⟨h2, h3⟩ := ba2 h2
        obtain ⟨h3, h4⟩ := ba2 h3
        obtain ⟨h4, h5⟩ := ba2 h4
        obtain ⟨h5, h6⟩ := ba2 h5
        have := of_decide_eq_true h1
        subst this
        have := of_decide_eq_true h2
        subst this
        exact ⟨_, _, _, _, rfl, h3, h4, h5, h6⟩
      · exact absurd h Bool.false_ne_true
    · exact absurd h Bool.false_ne_true
  | _ => exact absurd h Bool.false_ne_true
theorem inv_bop {t : Bool} {es : LAs} {e : Expr} (h : chkE c (.bop t es) e = true) : ∃ vs p, e = .BoolOp (if t then .And else .Or) vs p ∧ tokA es = true ∧ chkA c es vs = true := by
  cases e <;> first | exact absurd h Bool.false_ne_true | skip
  obtain ⟨h1, h2⟩ := ba2 h
  obtain ⟨h2, h3⟩ := ba2 h2
  have := of_decide_eq_true h1
  subst this
  exact ⟨_, _, rfl, h2, h3⟩
theorem inv_ite {t a b : LE} {e : Expr} (h : chkE c (.ite t a b) e = true) : ∃ t' a' b' p, e = .IfExp t' a' b' p ∧ tokB t = true ∧ chkE c t t' = true ∧ chkE c a a' = true ∧ chkE c b b' = true := by
  cases e <;> first | exact absurd h Bool.false_ne_true | skip
  obtain ⟨h1, h2⟩ := ba2 h
  obtain ⟨h2, h3⟩ := ba2 h2
  obtain ⟨h3, h4⟩ := ba2 h3
  exact ⟨_, _, _, _, rfl, h1, h2, h3, h4⟩
theorem inv_tup {es : LAs} {e : Expr} (h : chkE c (.tup es) e = true) : ∃ vs k p, e = .Tuple vs k p ∧ es.len ≤ 1000 ∧ chkA c es vs = true := by
  cases e <;> first | exact absurd h Bool.false_ne_true | skip
  obtain ⟨h1, h2⟩ := ba2 h
  exact ⟨_, _, _, rfl, of_decide_eq_true h1, h2⟩
theorem inv_lst {es : LAs} {e : Expr} (h : chkE c (.lst es) e = true) : ∃ vs p, e = .List vs p ∧ es.len ≤ 1000 ∧ chkA c es vs = true := by
  cases e <;> first | exact absurd h Bool.false_ne_true | skip
  obtain ⟨h1, h2⟩ := ba2 h
  exact ⟨_, _, rfl, of_decide_eq_true h1, h2⟩
theorem inv_lstC {es : LAs} {e : Expr} (h : chkE c (.lstC es) e = true) : ∃ vs p, e = .List vs p ∧ es.len ≤ 1000 ∧ chkA c es vs = true := by
  cases e <;> first | exact absurd h Bool.false_ne_true | skip
  obtain ⟨h1, h2⟩ := ba2 h
  exact ⟨_, _, rfl, of_decide_eq_true h1, h2⟩
theorem inv_addC {a b : LE} {e : Expr} (h : chkE c (.addC a b) e = true) : ∃ l r p, e = .BinOp l .Add r p ∧ chkE c a l = true ∧ chkE c b r = true := by
  cases e with
  | BinOp l o r p =>
    cases o <;> first | exact absurd h Bool.false_ne_true | skip
    exact ⟨_, _, _, rfl, ba2 h⟩
  | _ => exact absurd h Bool.false_ne_true
theorem inv_idx {a i : LE} {e : Expr} (h : chkE c (.idx a i) e = true) : ∃ l s p, e = .Subscript l s p ∧ notSl s = true ∧ chkE c a l = true ∧ chkE c i s = true := by
  cases e <;> first | exact absurd h Bool.false_ne_true | skip
  obtain ⟨h1, h2⟩ := ba2 h
  obtain ⟨h2, h3⟩ := ba2 h2
  exact ⟨_, _, _, rfl, h1, h2, h3⟩
theorem inv_slc {a : LE} {lo hi : LO} {e : Expr} (h : chkE c (.slc a lo hi) e = true) : ∃ l lo' hi' p2 p, e = .Subscript l (.Slice lo' hi' none p2) p ∧ chkE c a l = true ∧ chkO c lo lo' = true ∧ chkO c hi hi' = true := by
  cases e with
  | Subscript l s p =>
    cases s with
    | Slice l2 h2 st p2 =>
      cases st with
      | none =>
        obtain ⟨h1, h2⟩ := ba2 h
        exact ⟨_, _, _, _, _, rfl, h1, ba2 h2⟩
      | some _ => exact absurd h Bool.false_ne_true
    | _ => exact absurd h Bool.false_ne_true
  | _ => exact absurd h Bool.false_ne_true
theorem inv_callN {f : Expr} {vs : List Expr} {ks : List Keyword} {p : Pos} {b : Bool} (h : (match Expr.Call f vs ks p with
    | .Call (.Name x _) (v :: vs) [] _ => b
    | _ => false) = true) : True := trivial
theorem inv_call {f : Str} {es : LAs} {e : Expr} (h : chkE c (.call f es) e = true) : ∃ vs p2 p, e = .Call (.Name f p2) vs [] p ∧ glB c.sc f = true ∧ c.T.ar f = some es.len ∧ plainN f = true ∧ chkA c es vs = true := by
  cases e with
  | Call g vs ks p =>
    cases g with
    | Name x p2 =>
      cases ks with
      | nil =>
        obtain ⟨h1, h2⟩ := ba2 h
        obtain ⟨h2, h3⟩ := ba2 h2
        obtain ⟨h3, h4⟩ := ba2 h3
        obtain ⟨h4, h5⟩ := ba2 h4
        have := of_decide_eq_true h1
        subst this
        exact ⟨_, _, _, rfl, h2, of_decide_eq_true h3, h4, h5⟩
      | cons _ _ => exact absurd h Bool.false_ne_true
    | _ => exact absurd h Bool.false_ne_true
  | _ => exact absurd h Bool.false_ne_true
theorem inv_listC {es : LAs} {e : Expr} (h : chkE c (.listC es) e = true) : ∃ v vs p2 p, e = .Call (.Name ("list" : Str) p2) (v :: vs) [] p ∧ glB c.sc "list" = true ∧ c.T.free "list" = true ∧ chkA c es (v :: vs) = true := by
  cases e with
  | Call g vs ks p =>
    cases g with
    | Name x p2 =>
      cases ks with
      | nil =>
        cases vs with
        | nil => exact absurd h Bool.false_ne_true
        | cons v vs =>
          obtain ⟨h1, h2⟩ := ba2 h
          obtain ⟨h2, h3⟩ := ba2 h2
          obtain ⟨h3, h4⟩ := ba2 h3
          have := of_decide_eq_true h1
          subst this
          exact ⟨_, _, _, _, rfl, h2, h3, h4⟩
      | cons _ _ => cases vs <;> exact absurd h Bool.false_ne_true
    | _ => exact absurd h Bool.false_ne_true
  | _ => exact absurd h Bool.false_ne_true
theorem inv_blt {b : BF} {es : LAs} {e : Expr} (h : chkE c (.blt b es) e = true) : ∃ v vs p2 p, e = .Call (.Name (b.id : Str) p2) (v :: vs) [] p ∧ glB c.sc b.id = true ∧ c.T.free b.id = true ∧ chkA c es (v :: vs) = true := by
  cases e with
  | Call g vs ks p =>
    cases g with
    | Name x p2 =>
      cases ks with
      | nil =>
        cases vs with
        | nil => exact absurd h Bool.false_ne_true
        | cons v vs =>
          obtain ⟨h1, h2⟩ := ba2 h
          obtain ⟨h2, h3⟩ := ba2 h2
          obtain ⟨h3, h4⟩ := ba2 h3
          have := of_decide_eq_true h1
          subst this
          exact ⟨_, _, _, _, rfl, h2, h3, h4⟩
      | cons _ _ => cases vs <;> exact absurd h Bool.false_ne_true
    | _ => exact absurd h Bool.false_ne_true
  | _ => exact absurd h Bool.false_ne_true
theorem inv_isi {es : LAs} {e : Expr} (h : chkE c (.isi es) e = true) : ∃ v vs p2 p, e = .Call (.Name ("isinstance" : Str) p2) (v :: vs) [] p ∧ glB c.sc "isinstance" = true ∧ c.T.free "isinstance" = true ∧ chkA c es (v :: vs) = true := by
  cases e with
  | Call g vs ks p =>
    cases g with
    | Name x p2 =>
      cases ks with
      | nil =>
        cases vs with
        | nil => exact absurd h Bool.false_ne_true
        | cons v vs =>
          obtain ⟨h1, h2⟩ := ba2 h
          obtain ⟨h2, h3⟩ := ba2 h2
          obtain ⟨h3, h4⟩ := ba2 h3
          have := of_decide_eq_true h1
          subst this
          exact ⟨_, _, _, _, rfl, h2, h3, h4⟩
      | cons _ _ => cases vs <;> exact absurd h Bool.false_ne_true
    | _ => exact absurd h Bool.false_ne_true
  | _ => exact absurd h Bool.false_ne_true
theorem inv_isx {rs : List Str} {y : Str} {a : LE} {e : Expr} (h : chkE c (.isx rs y a) e = true) : ∃ a' p1 p2 p, e = .Call (.Name ("isinstance" : Str) p1) [a', .Name y p2] [] p ∧ glB c.sc "isinstance" = true ∧ c.T.free "isinstance" = true ∧ glB c.sc y = true ∧ plainN y = true ∧ c.T.jud y = true ∧ c.T.glo y = true ∧ (∀ z ∈ rs, z ∈ c.T.rs) ∧ chkE c a a' = true := by
  cases e with
  | Call g vs ks p =>
    cases g with
    | Name x p2 =>
      rcases vs with _ | ⟨v, _ | ⟨v2, _ | ⟨v3, vs⟩⟩⟩
      · exact absurd h Bool.false_ne_true
      · exact absurd h Bool.false_ne_true
      · cases v2 with
        | Name z q =>
          cases ks with
          | nil =>
            obtain ⟨h1, r1⟩ := ba2 h
            obtain ⟨h2, r2⟩ := ba2 r1
            obtain ⟨h3, r3⟩ := ba2 r2
            obtain ⟨h4, r4⟩ := ba2 r3
            obtain ⟨h5, r5⟩ := ba2 r4
            obtain ⟨h6, r6⟩ := ba2 r5
            obtain ⟨h7, r7⟩ := ba2 r6
            obtain ⟨h8, r8⟩ := ba2 r7
            obtain ⟨h9, r9⟩ := ba2 r8
            have e1 := of_decide_eq_true h1
            have e2 := of_decide_eq_true h2
            subst e1 e2
            exact ⟨_, _, _, _, rfl, h3, h4, h5, h6, h7, h8, fun z hz => by simpa using List.all_eq_true.mp h9 z hz, r9⟩
          | cons _ _ => exact absurd h Bool.false_ne_true
        | _ => exact absurd h Bool.false_ne_true
      · cases v2 <;> exact absurd h Bool.false_ne_true
    | _ => exact absurd h Bool.false_ne_true
  | _ => exact absurd h Bool.false_ne_true
theorem inv_isv {rs : List Str} {a : LE} {e : Expr} (h : chkE c (.isv rs a) e = true) : ∃ a' p1 p2 p, e = .Call (.Name ("isinstance" : Str) p1) [a', .Name ("ValueError" : Str) p2] [] p ∧ glB c.sc "isinstance" = true ∧ c.T.free "isinstance" = true ∧ glB c.sc "ValueError" = true ∧ c.T.free "ValueError" = true ∧ (∀ z ∈ rs, z ∈ c.T.rs) ∧ chkE c a a' = true := by
  cases e with
  | Call g vs ks p =>
    cases g with
    | Name x p2 =>
      rcases vs with _ | ⟨v, _ | ⟨v2, _ | ⟨v3, vs⟩⟩⟩
      · exact absurd h Bool.false_ne_true
      · exact absurd h Bool.false_ne_true
      · cases v2 with
        | Name z q =>
          cases ks with
          | nil =>
            obtain ⟨h1, r1⟩ := ba2 h
            obtain ⟨h2, r2⟩ := ba2 r1
            obtain ⟨h3, r3⟩ := ba2 r2
            obtain ⟨h4, r4⟩ := ba2 r3
            obtain ⟨h5, r5⟩ := ba2 r4
            obtain ⟨h6, r6⟩ := ba2 r5
            obtain ⟨h9, r7⟩ := ba2 r6
            have e1 := of_decide_eq_true h1
            have e2 := of_decide_eq_true h2
            subst e1 e2
            exact ⟨_, _, _, _, rfl, h3, h4, h5, h6, fun z hz => by simpa using List.all_eq_true.mp h9 z hz, r7⟩
          | cons _ _ => exact absurd h Bool.false_ne_true
        | _ => exact absurd h Bool.false_ne_true
      · cases v2 <;> exact absurd h Bool.false_ne_true
    | _ => exact absurd h Bool.false_ne_true
  | _ => exact absurd h Bool.false_ne_true
theorem inv_lm {m : LM} {o a : LE} {e : Expr} (h : chkE c (.lm m o a) e = true) : ∃ o' e' ap cp, e = .Call (.Attribute o' (m.nm : Str) ap) [e'] [] cp ∧ baseB o' = true ∧ (ap.endLine == cp.line) = true ∧ chkE c o o' = true ∧ chkE c a e' = true := by
  cases e with
  | Call g vs ks p =>
    cases g with
    | Attribute o' nm ap =>
      rcases vs with _ | ⟨v, _ | ⟨v2, vs⟩⟩
      · exact absurd h Bool.false_ne_true
      · cases ks with
        | nil =>
          obtain ⟨h1, r1⟩ := ba2 h
          obtain ⟨h2, r2⟩ := ba2 r1
          obtain ⟨h3, r3⟩ := ba2 r2
          obtain ⟨h4, r4⟩ := ba2 r3
          have e1 := of_decide_eq_true h1
          subst e1
          exact ⟨_, _, _, _, rfl, h2, h3, h4, r4⟩
        | cons _ _ => exact absurd h Bool.false_ne_true
      · exact absurd h Bool.false_ne_true
    | _ => exact absurd h Bool.false_ne_true
  | _ => exact absurd h Bool.false_ne_true
theorem inv_rngT1 {a : LE} {e : Expr} (h : chkE c (.rngT1 a) e = true) : ∃ e' p1 p2 p3 p4, e = .Call (.Name ("tuple" : Str) p1) [.Call (.Name ("range" : Str) p2) [e'] [] p3] [] p4 ∧ glB c.sc "tuple" = true ∧ c.T.free "tuple" = true ∧ glB c.sc "range" = true ∧ c.T.free "range" = true ∧ chkE c a e' = true := by
  cases e with
  | Call g vs ks p =>
    cases g with
    | Name x p2 =>
      rcases vs with _ | ⟨v, _ | ⟨v2, vs⟩⟩
      · exact absurd h Bool.false_ne_true
      · cases v with
        | Call g2 ws ks2 q =>
          cases g2 with
          | Name x2 q2 =>
            rcases ws with _ | ⟨w, _ | ⟨w2, ws⟩⟩
            · exact absurd h Bool.false_ne_true
            · cases ks2 with
              | nil =>
                cases ks with
                | nil =>
                  obtain ⟨h1, r1⟩ := ba2 h
                  obtain ⟨h2, r2⟩ := ba2 r1
                  obtain ⟨h3, r3⟩ := ba2 r2
                  obtain ⟨h4, r4⟩ := ba2 r3
                  obtain ⟨h5, r5⟩ := ba2 r4
                  obtain ⟨h6, r6⟩ := ba2 r5
                  have e1 := of_decide_eq_true h1
                  have e2 := of_decide_eq_true h2
                  subst e1 e2
                  exact ⟨_, _, _, _, _, rfl, h3, h4, h5, h6, r6⟩
                | cons _ _ => exact absurd h Bool.false_ne_true
              | cons _ _ => exact absurd h Bool.false_ne_true
            · exact absurd h Bool.false_ne_true
          | _ => exact absurd h Bool.false_ne_true
        | _ => exact absurd h Bool.false_ne_true
      · cases v with
        | Call g2 ws ks2 q =>
          cases g2 with
          | Name x2 q2 =>
            rcases ws with _ | ⟨w, _ | ⟨w2, ws⟩⟩
            · exact absurd h Bool.false_ne_true
            · cases ks2 <;> exact absurd h Bool.false_ne_true
            · exact absurd h Bool.false_ne_true
          | _ => exact absurd h Bool.false_ne_true
        | _ => exact absurd h Bool.false_ne_true
    | _ => exact absurd h Bool.false_ne_true
  | _ => exact absurd h Bool.false_ne_true
theorem inv_dget {a i : LE} {e : Expr} (h : chkE c (.dget a i) e = true) : ∃ l s p, e = .Subscript l s p ∧ notSl s = true ∧ chkE c a l = true ∧ chkE c i s = true := by
  cases e <;> first | exact absurd h Bool.false_ne_true | skip
  obtain ⟨h1, h2⟩ := ba2 h
  obtain ⟨h2, h3⟩ := ba2 h2
  exact ⟨_, _, _, rfl, h1, h2, h3⟩
theorem inv_din {a b : LE} {e : Expr} (h : chkE c (.din a b) e = true) : ∃ l r p, e = .Compare l [.In] [r] p ∧ notSetE r = true ∧ chkE c a l = true ∧ chkE c b r = true := by
  cases e with
  | Compare l os rs p =>
    rcases os with _ | ⟨o, _ | ⟨o2, os⟩⟩
    · exact absurd h Bool.false_ne_true
    · cases o <;> first | exact absurd h Bool.false_ne_true | skip
      rcases rs with _ | ⟨r, _ | ⟨r2, rs⟩⟩
      · exact absurd h Bool.false_ne_true
      · obtain ⟨h2, h3⟩ := ba2 h
        obtain ⟨h3, h4⟩ := ba2 h3
        exact ⟨_, _, _, rfl, h2, h3, h4⟩
      · exact absurd h Bool.false_ne_true
    · cases o <;> exact absurd h Bool.false_ne_true
  | _ => exact absurd h Bool.false_ne_true
theorem inv_dict {a : LE} {e : Expr} (h : chkE c (.dict a) e = true) : ∃ v p2 p, e = .Call (.Name ("dict" : Str) p2) [v] [] p ∧ glB c.sc "dict" = true ∧ c.T.free "dict" = true ∧ chkE c a v = true := by
  cases e with
  | Call g vs ks p =>
    cases g with
    | Name x p2 =>
      rcases vs with _ | ⟨v, _ | ⟨v2, vs⟩⟩
      · exact absurd h Bool.false_ne_true
      · cases ks with
        | nil =>
          obtain ⟨h1, r1⟩ := ba2 h
          obtain ⟨h2, r2⟩ := ba2 r1
          obtain ⟨h3, r3⟩ := ba2 r2
          have e1 := of_decide_eq_true h1
          subst e1
          exact ⟨_, _, _, rfl, h2, h3, r3⟩
        | cons _ _ => exact absurd h Bool.false_ne_true
      · exact absurd h Bool.false_ne_true
    | _ => exact absurd h Bool.false_ne_true
  | _ => exact absurd h Bool.false_ne_true
theorem inv_dictZ {es : LAs} {e : Expr} (h : chkE c (.dictZ es) e = true) : ∃ a b p1 p2 p3 p4, e = .Call (.Name ("dict" : Str) p1) [.Call (.Name ("zip" : Str) p2) [a, b] [] p3] [] p4 ∧ glB c.sc "dict" = true ∧ c.T.free "dict" = true ∧ glB c.sc "zip" = true ∧ c.T.free "zip" = true ∧ chkA c es [a, b] = true := by
  have h : (match vwF2 "dict" "zip" e with
    | some (a, b) => glB c.sc "dict" && (c.T.free "dict" && (glB c.sc "zip" && (c.T.free "zip" && chkA c es [a, b])))
    | none => false) = true := h
  split at h
  · rename_i a b q
    obtain ⟨p1, p2, p3, p4, rfl⟩ := vwF2_ok q
    obtain ⟨h1, r1⟩ := ba2 h
    obtain ⟨h2, r2⟩ := ba2 r1
    obtain ⟨h3, r3⟩ := ba2 r2
    obtain ⟨h4, r4⟩ := ba2 r3
    exact ⟨_, _, _, _, _, _, rfl, h1, h2, h3, h4, r4⟩
  · exact absurd h Bool.false_ne_true
theorem inv_rngT2 {x y : LE} {e : Expr} (h : chkE c (.rngT2 x y) e = true) : ∃ a b p1 p2 p3 p4, e = .Call (.Name ("tuple" : Str) p1) [.Call (.Name ("range" : Str) p2) [a, b] [] p3] [] p4 ∧ glB c.sc "tuple" = true ∧ c.T.free "tuple" = true ∧ glB c.sc "range" = true ∧ c.T.free "range" = true ∧ chkE c x a = true ∧ chkE c y b = true := by
  have h : (match vwF2 "tuple" "range" e with
    | some (a, b) => glB c.sc "tuple" && (c.T.free "tuple" && (glB c.sc "range" && (c.T.free "range" && (chkE c x a && chkE c y b))))
    | none => false) = true := h
  split at h
  · rename_i a b q
    obtain ⟨p1, p2, p3, p4, rfl⟩ := vwF2_ok q
    obtain ⟨h1, r1⟩ := ba2 h
    obtain ⟨h2, r2⟩ := ba2 r1
    obtain ⟨h3, r3⟩ := ba2 r2
    obtain ⟨h4, r4⟩ := ba2 r3
    obtain ⟨h5, r5⟩ := ba2 r4
    exact ⟨_, _, _, _, _, _, rfl, h1, h2, h3, h4, h5, r5⟩
  · exact absurd h Bool.false_ne_true
theorem inv_callC {fs : List Str} {f a : LE} {es : LAs} {e : Expr} (h : chkE c (.callC fs f a es) e = true) : ∃ x i p v vs p4, e = .Call (.Subscript x i p) (v :: vs) [] p4 ∧ (∀ x ∈ fs, c.T.ar x = some (es.len + 1)) ∧ chkE c f (.Subscript x i p) = true ∧ chkE c a v = true ∧ chkA c es vs = true := by
  have h : (match vwCC e with
    | some (g, v, vs) => fs.all (fun x => decide (c.T.ar x = some (es.len + 1))) && (chkE c f g && (chkE c a v && chkA c es vs))
    | none => false) = true := h
  split at h
  · rename_i g v vs q
    obtain ⟨x, i, p, p4, rfl, rfl⟩ := vwCC_ok q
    obtain ⟨h1, r1⟩ := ba2 h
    obtain ⟨h2, r2⟩ := ba2 r1
    obtain ⟨h3, r3⟩ := ba2 r2
    exact ⟨_, _, _, _, _, _, rfl, fun x hx => of_decide_eq_true (List.all_eq_true.mp h1 x hx), h2, h3, r3⟩
  · exact absurd h Bool.false_ne_true
theorem inv_lc {vs : List Nat} {s : LI} {tg : LT} {co : LO} {le : LE} {e : Expr} (h : chkE c (.lc vs s tg co le) e = true) : ∃ elt t it ifs scope p, e = .ListComp elt [⟨t, it, ifs, 0⟩] scope p ∧ blkC c.N c.sc scope (ownOf c.N vs) = true ∧ tg.slots.all (fun i => vs.contains i) = true ∧ notSetE it = true ∧ chkI c s t it = true ∧
    chkT (c.blk scope) tg t = true ∧ chkF (c.blk scope) co ifs = true ∧ chkE (c.blk scope) le elt = true := by
  cases e with
  | ListComp elt gs scope p =>
    rcases gs with _ | ⟨⟨t, it, ifs, n⟩, _ | ⟨g2, gs⟩⟩
    · exact absurd h Bool.false_ne_true
    · by_cases hn : n = 0
      · subst hn
        obtain ⟨h1, h2⟩ := ba2 h
        obtain ⟨h2, h3⟩ := ba2 h2
        obtain ⟨h3, h4⟩ := ba2 h3
        obtain ⟨h4, h5⟩ := ba2 h4
        obtain ⟨h5, h6⟩ := ba2 h5
        obtain ⟨h6, h7⟩ := ba2 h6
        exact ⟨_, _, _, _, _, _, rfl, h1, h2, h3, h4, h5, h6, h7⟩
      · rcases n with (_ | n) | n
        · exact absurd rfl hn
        · exact absurd h Bool.false_ne_true
        · exact absurd h Bool.false_ne_true
    · exact absurd h (by rcases g2 with ⟨_, _, _, n2⟩; simp [chkE])
  | _ => exact absurd h Bool.false_ne_true
end
end LC

end
section
set_option maxHeartbeats 2000000
/-! LC17: the check is enough: expressions, the induction. -/
namespace LC
open PySem PySem.Spec PyProof.Rows L2
section
variable {c : Ct}
theorem inv_lc2 {vs vs1 : List Nat} {s s1 : LI} {tg tg1 : LT} {co co1 : LO} {le : LE} {e : Expr} (h : chkE c (.lc2 vs vs1 s tg co s1 tg1 co1 le) e = true) : ∃ elt t it ifs t1 it1 ifs1 scope p, e = .ListComp elt [⟨t, it, ifs, 0⟩, ⟨t1, it1, ifs1, 0⟩] scope p ∧ blkC c.N c.sc scope (ownOf c.N vs) = true ∧ tg.slots.all (fun i => vs.contains i) = true ∧ notSetE it = true ∧ chkI c s t it = true ∧
    chkT (c.blk scope) tg t = true ∧ chkF (c.blk scope) co ifs = true ∧ vs1.all (fun i => vs.contains i) = true ∧ tg1.slots.all (fun i => vs1.contains i) = true ∧ notSetE it1 = true ∧ chkI (c.blk scope) s1 t1 it1 = true ∧ chkT (c.blk scope) tg1 t1 = true ∧ chkF (c.blk scope) co1 ifs1 = true ∧ chkE (c.blk scope) le elt = true := by
  cases e with
  | ListComp elt gs scope p =>
    rcases gs with _ | ⟨⟨t, it, ifs, n⟩, _ | ⟨⟨t1, it1, ifs1, n1⟩, _ | ⟨g3, gs⟩⟩⟩
    · exact absurd h Bool.false_ne_true
    · exact absurd h (by simp [chkE])
    · by_cases hn : n = 0
      · subst hn
        by_cases hn1 : n1 = 0
        · subst hn1
          obtain ⟨h1, h⟩ := ba2 h
          obtain ⟨h2, h⟩ := ba2 h
          obtain ⟨h3, h⟩ := ba2 h
          obtain ⟨h4, h⟩ := ba2 h
          obtain ⟨h5, h⟩ := ba2 h
          obtain ⟨h6, h⟩ := ba2 h
          obtain ⟨h7, h⟩ := ba2 h
          obtain ⟨h8, h⟩ := ba2 h
          obtain ⟨h9, h⟩ := ba2 h
          obtain ⟨h10, h⟩ := ba2 h
          obtain ⟨h11, h⟩ := ba2 h
          obtain ⟨h12, h⟩ := ba2 h
          exact ⟨_, _, _, _, _, _, _, _, _, rfl, h1, h2, h3, h4, h5, h6, h7, h8, h9, h10, h11, h12, h⟩
        · exact absurd h (by simp [chkE, hn1])
      · exact absurd h (by simp [chkE, hn])
    · exact absurd h (by simp [chkE])
  | _ => exact absurd h Bool.false_ne_true
theorem inv_enm {a : LE} {t e : Expr} (h : chkI c (.enm a) t e = true) : ∃ elts kk tp v p2 p, t = .Tuple elts kk tp ∧ e = .Call (.Name ("enumerate" : Str) p2) [v] [] p ∧ glB c.sc "enumerate" = true ∧ c.T.free "enumerate" = true ∧ chkE c a v = true := by
  cases t with
  | Tuple elts kk tp =>
    cases e with
    | Call g vs ks p =>
      cases g with
      | Name x p2 =>
        rcases vs with _ | ⟨v, _ | ⟨v2, vs⟩⟩
        · exact absurd h Bool.false_ne_true
        · cases ks with
          | nil =>
            obtain ⟨h1, r1⟩ := ba2 h
            obtain ⟨h2, r2⟩ := ba2 r1
            obtain ⟨h3, r3⟩ := ba2 r2
            have e1 := of_decide_eq_true h1
            subst e1
            exact ⟨_, _, _, _, _, _, rfl, rfl, h2, h3, r3⟩
          | cons _ _ => exact absurd h Bool.false_ne_true
        · exact absurd h Bool.false_ne_true
      | _ => exact absurd h Bool.false_ne_true
    | _ => exact absurd h Bool.false_ne_true
  | _ => exact absurd h Bool.false_ne_true
theorem noSl_of {s : Expr} (h : notSl s = true) : NoSl s := fun _ _ => by
  cases s <;> first | rfl | exact absurd h Bool.false_ne_true
theorem inv_rng {es : LAs} {t e : Expr} (h : chkI c (.rng es) t e = true) : ∃ vs p2 p, e = .Call (.Name ("range" : Str) p2) vs [] p ∧ glB c.sc "range" = true ∧ c.T.free "range" = true ∧ (vs.length == 1 || vs.length == 2) = true ∧ chkA c es vs = true := by
  cases e with
  | Call g vs ks p =>
    cases g with
    | Name x p2 =>
      cases ks with
      | nil =>
        obtain ⟨h1, h2⟩ := ba2 h
        obtain ⟨h2, h3⟩ := ba2 h2
        obtain ⟨h3, h4⟩ := ba2 h3
        obtain ⟨h4, h5⟩ := ba2 h4
        have := of_decide_eq_true h1
        subst this
        exact ⟨_, _, _, rfl, h2, h3, h4, h5⟩
      | cons _ _ => exact absurd h Bool.false_ne_true
    | _ => exact absurd h Bool.false_ne_true
  | _ => exact absurd h Bool.false_ne_true
theorem chkE_star {le : LE} {e : Expr} (h : chkE c le e = true) : isStar e = false := by
  cases e with
  | Starred _ _ => cases le <;> exact absurd h Bool.false_ne_true
  | _ => rfl
theorem vis_of {x : Str} (h : visB c.sc x = true) : Vis c.sc x := by
  unfold visB at h
  split at h
  · exact .inl (by assumption)
  · exact .inr (.inl (by assumption))
  · exact .inr (.inr (by assumption))
  · cases h
theorem plain_of {x : Str} (h : plainN x = true) : (x == ("__debug__" : Str)) = false ∧ (x == ("__classdict__" : Str)) = false := by
  obtain ⟨a, b⟩ := ba2 h
  exact ⟨by simpa using a, by simpa using b⟩
theorem behind_of {r : Expr} {op : CmpOp} (h : notSetE r = true) : behindInMarks op r = false := by
  cases r <;> first | rfl | cases h
theorem fold_of2 {r : Expr} (h : notSetE r = true) (env : PySem.Env) (x : Value) : foldedSetIterable r env x = pure x := by
  cases r <;> first | rfl | cases h
theorem own_map (vs : List Nat) : vs = (ownOf c.N vs).map (·.2) := by
  unfold ownOf
  rw [List.map_map]
  show vs = vs.map fun i => i
  rw [List.map_id']
theorem sub_of {us vs : List Nat} (h : us.all (fun i => vs.contains i) = true) : ∀ i ∈ us, i ∈ vs := fun i hi => by
  have := List.all_eq_true.mp h i hi
  simpa using this
theorem blk_kind {N : List Str} {sc scope : Scope} {own : List (Str × Nat)} (ok : BlkOk N sc scope own) : scope.kind = .function := ok.kind
end
section
variable {cf : Str → List D → M D} {K : PySem.W.Frag} {mg : Str → Option Value} {k : Nat}
theorem gl_of {X : Cx} {c : Ct} (o : OkC X c cf K mg k) {x : Str} (h : glB c.sc x = true) : Gl X x := by
  have h' : c.sc.names.lookup x = some .globalImplicit := eq_of_beq h
  show X.env.scope.names.lookup x = _
  rw [o.es]
  exact h'
theorem free_of {X : Cx} {c : Ct} (o : OkC X c cf K mg k) {x : Str} (h : c.T.free x = true) : X.mg x = none := by
  rw [o.em]
  exact o.free x h
theorem sndT {X : Cx} {c : Ct} (o : OkC X c cf K mg k) : ∀ {tg : LT} {e : Expr}, chkT c tg e = true → PG X e (TGv K mg tg)
  | .nm i, e, h => by
    cases e with
    | Name x p =>
      obtain ⟨h1, h2⟩ := ba2 (show (decide (c.N[i]? = some x) && ((c.sc.names.lookup x == some .local || (c.sc.names.lookup x == some .cell && c.fn x)) && true)) = true from h)
      obtain ⟨h2, _⟩ := ba2 h2
      obtain ⟨a, b⟩ := name_ok h2
      exact sG_nm o.nd (by rw [o.eN]; exact of_decide_eq_true h1) (by rw [o.es]; exact a) (by rw [o.es]; exact b.elim (fun z => .inl (o.fn x z)) .inr)
    | _ => exact absurd h Bool.false_ne_true
  | .tp is, e, h => by
    cases e with
    | Tuple es k p => exact sG_tp o.calm o.nd o.fn (by rw [o.eN, o.es]; exact h) o.eK
    | _ => exact absurd h Bool.false_ne_true
abbrev GoodE (cf : Str → List D → M D) (K : PySem.W.Frag) (mg : Str → Option Value) (k : Nat) (c : Ct) (le : LE) (e : Expr) : Prop :=
  (∀ (X : Cx) (W : WX), OkC X c cf K mg k → Takes X W → PE X e (TEv K mg W (evE cf le))) ∧ (tokB le = true → ∀ (X : Cx) (W : WX), OkC X c cf K mg k → Takes X W → PT X e (TTv K mg W (asBl (evE cf le))))
/-- where a test is an ordinary value -/
theorem goodV {c : Ct} {le : LE} {e : Expr} (he : ∀ (env : PySem.Env) (whole : Sem Value), isTrue e env whole = (do let v ← whole; standAt e.pos; holding [v] (truthy v))) (h : ∀ (X : Cx) (W : WX), OkC X c cf K mg k → Takes X W → PE X e (TEv K mg W (evE cf le))) : GoodE cf K mg k c le e :=
  ⟨h, fun _ X W o tk => sT_val (he X.env) (h X W o tk)⟩
theorem lenA : ∀ es : LAs, LenIs (evA cf es) es.len
  | .nil => lenIs_nil
  | .cons e es => lenIs_cons (lenA es)
theorem hu1 {X : Cx} {c : Ct} (o : OkC X c cf K mg k) : Room 1 X.A := o.room.mono (by omega)
mutual
theorem sndE : ∀ (le : LE) (c : Ct) (e : Expr), chkE c le e = true → GoodE cf K mg k c le e
  | .var i, c, e, h => by
    obtain ⟨x, p, rfl, h1, h2, h3⟩ := inv_var h
    obtain ⟨h4, h5⟩ := plain_of h3
    exact goodV (fun _ _ => rfl) fun X W o tk => sE_var (by rw [o.eN]; exact h1) (by rw [o.es]; exact vis_of h2) h4 h5
  | .cst d, c, e, h => by
    obtain ⟨x, j, p, rfl, h1⟩ := inv_cst h
    exact goodV (fun _ _ => rfl) fun X W o tk => sE_cst h1
  | .gfn x, c, e, h => by
    obtain ⟨p, rfl, h1, h2, h3⟩ := inv_gfn h
    exact goodV (fun _ _ => rfl) fun X W o tk => sE_gfn (gl_of o h1) (o.glo x h2) o.em (plain_of h3).1
  | .ty b, c, e, h => by
    obtain ⟨p, rfl, h1, h2⟩ := inv_ty h
    exact goodV (fun _ _ => rfl) fun X W o tk => sE_ty (gl_of o h1) (free_of o h2) (bt_boot b).1 (bt_boot b).2.1 (bt_boot b).2.2
  | .bin op a b, c, e, h => by
    obtain ⟨l, r, p, rfl, h1, h2⟩ := inv_bin h
    exact goodV (fun _ _ => rfl) fun X W o tk => by
      have ho := op_bin (X := X) op
      rw [o.eK] at ho
      exact sE_op ho (snd_bin op) ((sndE a c l h1).1 X W o tk) ((sndE b c r h2).1 X W o tk)
  | .neg a, c, e, h => by
    obtain ⟨l, p, rfl, h1⟩ := inv_neg h
    exact goodV (fun _ _ => rfl) fun X W o tk => sE_neg ((sndE a c l h1).1 X W o tk)
  | .nt a, c, e, h => by
    obtain ⟨l, p, rfl, h1, h2⟩ := inv_nt h
    exact ⟨fun X W o tk => sE_not ((sndE a c l h2).1 X W o tk), fun _ X W o tk => sT_not ((sndE a c l h2).2 h1 X W o tk)⟩
  | .cmp op a b, c, e, h => by
    obtain ⟨l, r, p, rfl, h1, h2, h3⟩ := inv_cmp h
    refine ⟨fun X W o tk => ?_, fun _ X W o tk => ?_⟩
    · have ho := op_cmp (X := X) (hu1 o) op
      rw [o.eK] at ho
      exact sE_cmp ho (snd_cmp op) (behind_of h1) ((sndE a c l h2).1 X W o tk) ((sndE b c r h3).1 X W o tk)
    · have ho := op_cmp (X := X) (hu1 o) op
      rw [o.eK] at ho
      exact sT_cmp ho (snd_cmp op) (behind_of h1) ((sndE a c l h2).1 X W o tk) ((sndE b c r h3).1 X W o tk)
  | .chn op op2 a b d, c, e, h => by
    obtain ⟨l, m, r, p, rfl, h1, h2, h3, h4⟩ := inv_chn h
    refine ⟨fun X W o tk => ?_, fun _ X W o tk => ?_⟩
    · have ho := op_cmp (X := X) (hu1 o) op
      have ho2 := op_cmp (X := X) (hu1 o) op2
      rw [o.eK] at ho ho2
      exact sE_chn ho ho2 (snd_cmp op) (snd_cmp op2) (behind_of h1) ((sndE a c l h2).1 X W o tk) ((sndE b c m h3).1 X W o tk) ((sndE d c r h4).1 X W o tk)
    · have ho := op_cmp (X := X) (hu1 o) op
      have ho2 := op_cmp (X := X) (hu1 o) op2
      rw [o.eK] at ho ho2
      exact sT_chn ho ho2 (snd_cmp op) (snd_cmp op2) (behind_of h1) ((sndE a c l h2).1 X W o tk) ((sndE b c m h3).1 X W o tk) ((sndE d c r h4).1 X W o tk)
  | .bop t es, c, e, h => by
    obtain ⟨vs, p, rfl, h1, h2⟩ := inv_bop h
    exact ⟨fun X W o tk => (sndB t es c vs h2 h1 p X W o tk).1, fun _ X W o tk => (sndB t es c vs h2 h1 p X W o tk).2.pt⟩
  | .ite t a b, c, e, h => by
    obtain ⟨t', a', b', p, rfl, h1, h2, h3, h4⟩ := inv_ite h
    exact ⟨fun X W o tk => sE_ite ((sndE t c t' h2).2 h1 X W o tk) ((sndE a c a' h3).1 X W o tk) ((sndE b c b' h4).1 X W o tk), fun z => by cases z⟩
  | .tup es, c, e, h => by
    obtain ⟨vs, j, p, rfl, h1, h2⟩ := inv_tup h
    exact goodV (fun _ _ => rfl) fun X W o tk => sE_tup (lenA es) h1 ((sndA es c vs h2).1 X W o tk)
  | .lst es, c, e, h => by
    obtain ⟨vs, p, rfl, h1, h2⟩ := inv_lst h
    exact goodV (fun _ _ => rfl) fun X W o tk => sE_lst (lenA es) h1 ((sndA es c vs h2).1 X W o tk)
  | .lstC es, c, e, h => by
    obtain ⟨vs, p, rfl, h1, h2⟩ := inv_lstC h
    exact goodV (fun _ _ => rfl) fun X W o tk => sE_lstC (lenA es) h1 ((sndA es c vs h2).1 X W o tk)
  | .addC a b, c, e, h => by
    obtain ⟨l, r, p, rfl, h1, h2⟩ := inv_addC h
    exact goodV (fun _ _ => rfl) fun X W o tk => sE_addC o.eK ((sndE a c l h1).1 X W o tk) ((sndE b c r h2).1 X W o tk)
  | .listC es, c, e, h => by
    obtain ⟨v, vs, p2, p, rfl, h1, h2, h3⟩ := inv_listC h
    exact goodV (fun _ _ => rfl) fun X W o tk => sE_listC o.eK (gl_of o h1) (free_of o h2) (bt_boot .list).1 (bt_boot .list).2.1 (bt_boot .list).2.2 (sndA es c (v :: vs) h3).2 ((sndA es c (v :: vs) h3).1 X W o tk)
  | .idx a i, c, e, h => by
    obtain ⟨l, s, p, rfl, h1, h2, h3⟩ := inv_idx h
    exact goodV (fun _ _ => rfl) fun X W o tk => sE_idx h1 ((sndE a c l h2).1 X W o tk) ((sndE i c s h3).1 X W o tk) o.eK
  | .slc a lo hi, c, e, h => by
    obtain ⟨l, lo', hi', p2, p, rfl, h1, h2, h3⟩ := inv_slc h
    exact goodV (fun _ _ => rfl) fun X W o tk => sE_slice o.eK ((sndE a c l h1).1 X W o tk) (sndO lo c lo' h2 X W o tk) (sndO hi c hi' h3 X W o tk)
  | .call f .nil, c, e, h => by
    obtain ⟨vs, p2, p, rfl, h1, h2, h3, h4⟩ := inv_call h
    cases vs with
    | nil => exact goodV (fun _ _ => rfl) fun X W o tk => sE_call0 o.eK o.em (o.fns f 0 h2) o.room (gl_of o h1) (plain_of h3).1
    | cons _ _ => exact absurd h4 Bool.false_ne_true
  | .call f (.cons a es), c, e, h => by
    obtain ⟨vs, p2, p, rfl, h1, h2, h3, h4⟩ := inv_call h
    cases vs with
    | nil => exact absurd h4 Bool.false_ne_true
    | cons v vs =>
      obtain ⟨h5, h6⟩ := ba2 (show (chkE c a v && chkA c es vs) = true from h4)
      have g1 := sndE a c v h5
      have g2 := sndA es c vs h6
      refine goodV (fun _ _ => rfl) fun X W o tk => ?_
      refine sE_call o.eK o.em (o.fns f _ h2) o.room tk (gl_of o h1) (lenIs_cons (lenA es)) (plain_of h3).1 (fun z hz => ?_) (sA_cons (chkE_star h5) (g1.1 X W o tk) (g2.1 X W o tk))
      rcases List.mem_cons.mp hz with rfl | hz
      · exact chkE_star h5
      · exact g2.2 z hz
  | .blt b es, c, e, h => by
    obtain ⟨v, vs, p2, p, rfl, h1, h2, h3⟩ := inv_blt h
    refine goodV (fun _ _ => rfl) fun X W o tk => ?_
    have hc := call_bf (X := X) o.calm (o.room.hd) b
    rw [o.eK] at hc
    exact sE_callV (bf_val b) hc (snd_bf (by have := (hu1 o).un; omega) b) (gl_of o h1) (free_of o h2) (bf_boot b).1 (bf_boot b).2.1 (bf_boot b).2.2 (sndA es c (v :: vs) h3).2 ((sndA es c (v :: vs) h3).1 X W o tk)
  | .isi es, c, e, h => by
    obtain ⟨v, vs, p2, p, rfl, h1, h2, h3⟩ := inv_isi h
    refine goodV (fun _ _ => rfl) fun X W o tk => ?_
    have hc := call_isi (X := X)
    rw [o.eK] at hc
    exact sE_callV (.inl ⟨_, rfl⟩) hc snd_isi (gl_of o h1) (free_of o h2) (by decide +kernel) (by decide) (by decide) (sndA es c (v :: vs) h3).2 ((sndA es c (v :: vs) h3).1 X W o tk)
  | .isx rs y a, c, e, h => by
    obtain ⟨a', p1, p2, p, rfl, h1, h2, h3, h4, h5, h6, h7, h8⟩ := inv_isx h
    refine goodV (fun _ _ => rfl) fun X W o tk => ?_
    exact sE_isx o.eK o.em (gl_of o h1) (free_of o h2) (gl_of o h3) (plain_of h4).1 (o.glo y h6) (fun z hz => o.judg y h5 z (h7 z hz)) (chkE_star h8) ((sndE a c a' h8).1 X W o tk)
  | .isv rs a, c, e, h => by
    obtain ⟨a', p1, p2, p, rfl, h1, h2, h3, h4, h7, h8⟩ := inv_isv h
    refine goodV (fun _ _ => rfl) fun X W o tk => ?_
    exact sE_isv o.eK (gl_of o h1) (free_of o h2) (gl_of o h3) (free_of o h4) (fun z hz => o.judv z (h7 z hz)) (chkE_star h8) ((sndE a c a' h8).1 X W o tk)
  | .lm m o' a, c, e, h => by
    obtain ⟨oe, e', ap, cp, rfl, h1, h2, h3, h4⟩ := inv_lm h
    refine goodV (fun _ _ => rfl) fun X W o tk => ?_
    exact sE_lm m o.eK (by have := (hu1 o).un; omega) h1 h2 (chkE_star h4) ((sndE o' c oe h3).1 X W o tk) ((sndE a c e' h4).1 X W o tk)
  | .rngT1 a, c, e, h => by
    obtain ⟨e', p1, p2, p3, p4, rfl, h1, h2, h3, h4, h5⟩ := inv_rngT1 h
    refine goodV (fun _ _ => rfl) fun X W o tk => ?_
    exact sE_rngT1 o.eK o.calm (gl_of o h1) (free_of o h2) (gl_of o h3) (free_of o h4) (chkE_star h5) ((sndE a c e' h5).1 X W o tk)
  | .dget a i, c, e, h => by
    obtain ⟨l, s, p, rfl, h1, h2, h3⟩ := inv_dget h
    exact goodV (fun _ _ => rfl) fun X W o tk => sE_dget (by have := (hu1 o).un; omega) (noSl_of h1) ((sndE a c l h2).1 X W o tk) ((sndE i c s h3).1 X W o tk)
  | .din a b, c, e, h => by
    obtain ⟨l, r, p, rfl, h1, h2, h3⟩ := inv_din h
    refine ⟨fun X W o tk => sE_din (by have := (hu1 o).un; omega) (behind_of h1) ((sndE a c l h2).1 X W o tk) ((sndE b c r h3).1 X W o tk), fun _ X W o tk => ?_⟩
    exact sT_din (by have := (hu1 o).un; omega) (behind_of h1) ((sndE a c l h2).1 X W o tk) ((sndE b c r h3).1 X W o tk)
  | .dict a, c, e, h => by
    obtain ⟨v, p2, p, rfl, h1, h2, h3⟩ := inv_dict h
    exact goodV (fun _ _ => rfl) fun X W o tk => sE_dict o.eK o.calm (gl_of o h1) (free_of o h2) (chkE_star h3) ((sndE a c v h3).1 X W o tk)
  | .dictZ es, c, e, h => by
    obtain ⟨a, b, p1, p2, p3, p4, rfl, h1, h2, h3, h4, h5⟩ := inv_dictZ h
    have g := sndA es c [a, b] h5
    exact goodV (fun _ _ => rfl) fun X W o tk => sE_dictZ o.eK o.calm (gl_of o h1) (free_of o h2) (gl_of o h3) (free_of o h4) (g.2 a (by simp)) (g.2 b (by simp)) (g.1 X W o tk)
  | .rngT2 x y, c, e, h => by
    obtain ⟨a, b, p1, p2, p3, p4, rfl, h1, h2, h3, h4, h5, h6⟩ := inv_rngT2 h
    exact goodV (fun _ _ => rfl) fun X W o tk => sE_rngT2 o.eK o.calm (gl_of o h1) (free_of o h2) (gl_of o h3) (free_of o h4) (chkE_star h5) (chkE_star h6) ((sndE x c a h5).1 X W o tk) ((sndE y c b h6).1 X W o tk)
  | .callC fs f a es, c, e, h => by
    obtain ⟨x, i, p, v, vs, p4, rfl, h1, h2, h3, h4⟩ := inv_callC h
    have g0 := sndE f c _ h2
    have g1 := sndE a c v h3
    have g2 := sndA es c vs h4
    refine goodV (fun _ _ => rfl) fun X W o tk => ?_
    refine sE_callC o.eK o.em (fun y hy => o.fns y _ (h1 y hy)) o.room tk (lenIs_cons (lenA es)) (fun z hz => ?_) rfl (g0.1 X W o tk) (sA_cons (chkE_star h3) (g1.1 X W o tk) (g2.1 X W o tk))
    rcases List.mem_cons.mp hz with rfl | hz
    · exact chkE_star h3
    · exact g2.2 z hz
  | .unk, c, e, h => by
    refine ⟨fun X W o tk => ⟨fun pins s σ H Q I q => ?_⟩, fun _ X W o tk => ⟨fun pins s σ H Q I q => ?_⟩⟩
    · obtain ⟨_, _, _, _, _, _, _, _, q⟩ := q
      exact q.elim
    · obtain ⟨_, _, _, _, _, _, _, _, q⟩ := q
      exact q.elim
  | .lc vs s tg co le, c, e, h => by
    obtain ⟨elt, t, it, ifs, scope, p, rfl, h1, h2, h3, h4, h5, h6, h7⟩ := inv_lc h
    have g1 := sndI s c it t h4
    have g2 := sndF co (c.blk scope) ifs h6
    have g3 := sndE le (c.blk scope) elt h7
    refine goodV (fun _ _ => rfl) fun X W o tk => ?_
    have ok : BlkOk X.N X.env.scope scope (ownOf c.N vs) := by
      rw [o.eN, o.es]
      exact blkOk_by h1
    exact sE_lc (own_map vs) (sub_of h2) o.calm o.nd (g1 X W o tk) ok (fun s H C cl fp => sndT (o.blk ok.kind s H C cl fp) h5) (fun s H C cl fp => g2 _ (o.blk ok.kind s H C cl fp)) (fun s H C cl fp => g3.1 _ _ (o.blk ok.kind s H C cl fp) takes0) (fold_of2 h3 _)
  | .lc2 vs vs1 s tg co s1 tg1 co1 le, c, e, h => by
    obtain ⟨elt, t, it, ifs, t1, it1, ifs1, scope, p, rfl, h1, h2, h3, h4, h5, h6, h7, h8, h9, h10, h11, h12, h13⟩ := inv_lc2 h
    have g1 := sndI s c it t h4
    have g2 := sndF co (c.blk scope) ifs h6
    have g3 := sndI s1 (c.blk scope) it1 t1 h10
    have g4 := sndF co1 (c.blk scope) ifs1 h12
    have g5 := sndE le (c.blk scope) elt h13
    refine goodV (fun _ _ => rfl) fun X W o tk => ?_
    have ok : BlkOk X.N X.env.scope scope (ownOf c.N vs) := by
      rw [o.eN, o.es]
      exact blkOk_by h1
    exact sE_lc2 (own_map vs) (by rw [← own_map (c := c) vs]; exact sub_of h7) (sub_of h2) (sub_of h8) o.calm o.nd (g1 X W o tk) ok (fun s H C cl fp => sndT (o.blk ok.kind s H C cl fp) h5) (fun s H C cl fp => g2 _ (o.blk ok.kind s H C cl fp))
      (fun s H C cl fp => g3 _ _ (o.blk ok.kind s H C cl fp) takes0) (fun s H C cl fp => sndT (o.blk ok.kind s H C cl fp) h11) (fun s H C cl fp => g4 _ (o.blk ok.kind s H C cl fp)) (fun s H C cl fp => g5.1 _ _ (o.blk ok.kind s H C cl fp) takes0) (fold_of2 h3 _) (fold_of2 h9)
theorem sndA : ∀ (es : LAs) (c : Ct) (vs : List Expr), chkA c es vs = true → (∀ (X : Cx) (W : WX), OkC X c cf K mg k → Takes X W → PA X vs (TAv K mg W (evA cf es))) ∧ ∀ z ∈ vs, isStar z = false
  | .nil, c, [], h => ⟨fun X W o tk => sA_nil, fun z hz => by cases hz⟩
  | .nil, c, _ :: _, h => absurd h Bool.false_ne_true
  | .cons e es, c, [], h => absurd h Bool.false_ne_true
  | .cons e es, c, v :: vs, h => by
    obtain ⟨h1, h2⟩ := ba2 (show (chkE c e v && chkA c es vs) = true from h)
    have g1 := sndE e c v h1
    have g2 := sndA es c vs h2
    refine ⟨fun X W o tk => sA_cons (chkE_star h1) (g1.1 X W o tk) (g2.1 X W o tk), fun z hz => ?_⟩
    rcases List.mem_cons.mp hz with rfl | hz
    · exact chkE_star h1
    · exact g2.2 z hz
theorem sndB : ∀ (t : Bool) (es : LAs) (c : Ct) (vs : List Expr), chkA c es vs = true → tokA es = true → ∀ (p : Pos) (X : Cx) (W : WX), OkC X c cf K mg k → Takes X W →
    PE X (.BoolOp (if t then .And else .Or) vs p) (TEv K mg W (evB cf t es)) ∧ PW X (.BoolOp (if t then .And else .Or) vs p) (TTv K mg W (asBl (evB cf t es)))
  | t, .nil, c, vs, h, _, p, X, W, o, tk => by
    refine ⟨⟨fun pins s σ H Q I q => ?_⟩, ⟨fun w pins s σ H Q I q => ?_⟩⟩
    · obtain ⟨_, _, _, _, _, _, _, _, q⟩ := q
      exact q.elim
    · obtain ⟨_, _, _, _, _, _, _, _, q⟩ := q
      exact q.elim
  | t, .cons e .nil, c, vs, h, ht, p, X, W, o, tk => by
    cases vs with
    | nil => exact absurd h Bool.false_ne_true
    | cons v vs =>
      obtain ⟨h1, h2⟩ := ba2 (show (chkE c e v && chkA c .nil vs) = true from h)
      cases vs with
      | cons _ _ => exact absurd h2 Bool.false_ne_true
      | nil =>
        have g1 := sndE e c v h1
        have ht' : tokB e = true := (ba2 ht).1
        exact ⟨sE_one (g1.1 X W o tk), sW_one (g1.2 ht' X W o tk)⟩
  | t, .cons e (.cons e2 es), c, vs, h, ht, p, X, W, o, tk => by
    cases vs with
    | nil => exact absurd h Bool.false_ne_true
    | cons v vs =>
      obtain ⟨h1, h2⟩ := ba2 (show (chkE c e v && chkA c (.cons e2 es) vs) = true from h)
      cases vs with
      | nil => exact absurd h2 Bool.false_ne_true
      | cons v2 vs =>
        have g1 := sndE e c v h1
        obtain ⟨ht1, ht2⟩ := ba2 ht
        have g2 := sndB t (.cons e2 es) c (v2 :: vs) h2 ht2 p X W o tk
        cases t with
        | true => exact ⟨sE_and (g1.1 X W o tk) g2.1, sW_and (g1.2 ht1 X W o tk) g2.2⟩
        | false => exact ⟨sE_or (g1.1 X W o tk) g2.1, sW_or (g1.2 ht1 X W o tk) g2.2⟩
theorem sndO : ∀ (lo : LO) (c : Ct) (e : Option Expr), chkO c lo e = true → ∀ (X : Cx) (W : WX), OkC X c cf K mg k → Takes X W → PO X e (TOv K mg W (optI (evO cf lo)))
  | .none, c, none, h, X, W, o, tk => sO_none
  | .none, c, some _, h, _, _, _, _ => absurd h Bool.false_ne_true
  | .some _, c, none, h, _, _, _, _ => absurd h Bool.false_ne_true
  | .some le, c, some e, h, X, W, o, tk => sO_some ((sndE le c e h).1 X W o tk)
theorem sndF : ∀ (lo : LO) (c : Ct) (es : List Expr), chkF c lo es = true → ∀ (X : Cx), OkC X c cf K mg k → PTs X es (TTo K mg (evO cf lo))
  | .none, c, [], h, X, o => pts_nil
  | .none, c, _ :: _, h, X, o => absurd h Bool.false_ne_true
  | .some _, c, [], h, X, o => absurd h Bool.false_ne_true
  | .some _, c, _ :: _ :: _, h, X, o => absurd h Bool.false_ne_true
  | .some le, c, [e], h, X, o => pts_one ((sndE le c e (ba2 h).2).2 (ba2 h).1 X W0 o takes0)
theorem sndI : ∀ (s : LI) (c : Ct) (e tg : Expr), chkI c s tg e = true → ∀ (X : Cx) (W : WX), OkC X c cf K mg k → Takes X W → PI X tg e (TIv K mg W (evI cf s))
  | .of le, c, e, tg, h, X, W, o, tk => sI_of o.eK ((sndE le c e h).1 X W o tk)
  | .enm a, c, e, tg, h, X, W, o, tk => by
    obtain ⟨elts, kk, tp, v, p2, p, rfl, rfl, h1, h2, h3⟩ := inv_enm h
    exact sI_enm o.eK (gl_of o h1) (free_of o h2) (chkE_star h3) ((sndE a c v h3).1 X W o tk)
  | .rng es, c, e, tg, h, X, W, o, tk => by
    obtain ⟨vs, p2, p, rfl, h1, h2, h3, h4⟩ := inv_rng h
    have g := sndA es c vs h4
    have hl := lenA (cf := cf) es
    rcases vs with _ | ⟨v, _ | ⟨v2, _ | ⟨v3, vs⟩⟩⟩
    · cases h3
    · rcases es with _ | ⟨e1, _ | ⟨e2, es⟩⟩
      · exact absurd h4 Bool.false_ne_true
      · exact sI_rng1 (g.2 v List.mem_cons_self) (gl_of o h1) (free_of o h2) (g.1 X W o tk) hl
      · exact absurd (ba2 (show (chkE c e1 v && chkA c (.cons e2 es) []) = true from h4)).2 Bool.false_ne_true
    · rcases es with _ | ⟨e1, _ | ⟨e2, _ | ⟨e3, es⟩⟩⟩
      · exact absurd h4 Bool.false_ne_true
      · exact absurd (ba2 (show (chkE c e1 v && chkA c .nil [v2]) = true from h4)).2 Bool.false_ne_true
      · exact sI_rng2 (g.2 v List.mem_cons_self) (g.2 v2 (List.mem_cons_of_mem _ List.mem_cons_self)) (gl_of o h1) (free_of o h2) (g.1 X W o tk) hl
      · exact absurd (ba2 (show (chkE c e2 v2 && chkA c (.cons e3 es) []) = true from (ba2 (show (chkE c e1 v && chkA c (.cons e2 (.cons e3 es)) [v2]) = true from h4)).2)).2 Bool.false_ne_true
    · cases h3
end
end
end LC

end
section
set_option maxHeartbeats 2000000
/-! LC18: the check is enough: statements. -/
namespace LC
open PySem PySem.Spec PyProof.Rows L2
section
variable {cf : Str → List D → M D} {K : PySem.W.Frag} {mg : Str → Option Value} {k : Nat}
theorem sw_sub {o i e : Expr} {p : Pos} {l : Nat} {env : PySem.Env} : swapsWithSole [.Subscript o i p] e l env = pure false := by
  cases e <;> rfl
theorem ss_sub {o i e : Expr} {p : Pos} {env : PySem.Env} : swappedStores [.Subscript o i p] e env = pure none := by
  cases e <;> rfl
theorem sw_tup {ts : List Expr} {n : Nat} {e : Expr} {p : Pos} {l : Nat} {env : PySem.Env} : swapsWithSole [.Tuple ts n p] e l env = pure false := by
  cases e <;> rfl
theorem ss_tup {ts : List Expr} {n : Nat} {e : Expr} {p : Pos} {env : PySem.Env} {sc : Scope} (es : env.scope = sc) (hk : sc.kind = .function) (h : asgOk sc ts e = true) : swappedStores [.Tuple ts n p] e env = pure none := by
  subst es
  cases e with
  | Tuple vs _ _ => exact swapped_no hk (ba2 h).1 (ba2 h).2
  | List vs _ => exact absurd h Bool.false_ne_true
  | _ => rfl
theorem lcn {e : Expr} {t : Option Expr} {l : Nat} {env : PySem.Env} (h : notLc e = true) : swapsWith e t l env = pure false := by
  cases e <;> first | rfl | exact absurd h Bool.false_ne_true
theorem name_loc {X : Cx} {c : Ct} (o : OkC X c cf K mg k) {i : Nat} {x : Str} (h : setOk c i x = true) : X.N[i]? = some x ∧ Loc X.env.scope x ∧ (X.fn x = true ∨ X.env.scope.names.lookup x = some .local) := by
  obtain ⟨h1, h2⟩ := ba2 h
  have a : namesOk c.N c.sc c.fn [.Name x ⟨0, 0, 0, 0⟩] [i] = true := by
    show (decide (c.N[i]? = some x) && ((c.sc.names.lookup x == some .local || (c.sc.names.lookup x == some .cell && c.fn x)) && true)) = true
    rw [h1, h2]
    rfl
  rw [o.eN, o.es]
  obtain ⟨a, b⟩ := name_ok h2
  exact ⟨of_decide_eq_true h1, a, b.elim (fun z => .inl (o.fn x z)) .inr⟩
theorem two_ts {c : Ct} {s : LS} {t t2 : Expr} {ts : List Expr} {v : Expr} {p : Pos} (hs : s ≠ .sunk) (h : chkS c s (.Assign (t :: t2 :: ts) v p) = true) : False := by
  cases s with
  | sunk => exact absurd rfl hs
  | asg tg e =>
    cases tg <;> cases t <;> exact absurd h Bool.false_ne_true
  | par i j es =>
    cases t with
    | Tuple ns _ _ =>
      rcases ns with _ | ⟨n1, ns⟩
      · exact absurd h Bool.false_ne_true
      · rcases ns with _ | ⟨n2, ns⟩
        · cases n1 <;> exact absurd h Bool.false_ne_true
        · cases n1 with
          | Name _ _ =>
            cases n2 with
            | Name _ _ => cases ns <;> exact absurd h Bool.false_ne_true
            | _ => exact absurd h Bool.false_ne_true
          | _ => exact absurd h Bool.false_ne_true
    | _ => exact absurd h Bool.false_ne_true
  | _ => cases t <;> exact absurd h Bool.false_ne_true
theorem asg_nm {c : Ct} {i : Nat} {e : LE} {st : Stmt} (h : chkS c (.asg (.nm i) e) st = true) : False := by
  cases st <;> exact absurd h Bool.false_ne_true
theorem inv_par {c : Ct} {i j : Nat} {es : LAs} {st : Stmt} (h : chkS c (.par i j es) st = true) : ∃ x px y py kt pt a b k2 p2 pos, st = .Assign [.Tuple [.Name x px, .Name y py] kt pt] (.Tuple [a, b] k2 p2) pos ∧ (decide (c.N[i]? = some x) && (decide (c.N[j]? = some y) && (decide (i ≠ j) && (c.sc.names.lookup x == some .local && (c.sc.names.lookup y == some .local && (decide (px.line = py.line) && (decide (x ≠ y) && (swYes c.sc [.Name x px, .Name y py] [a, b] && chkA c es [a, b])))))))) = true := by
  cases st with
  | Assign ts v p =>
    rcases ts with _ | ⟨t, _ | ⟨t2, ts⟩⟩
    · exact absurd h Bool.false_ne_true
    · cases t with
      | Tuple ns kt pt =>
        rcases ns with _ | ⟨n1, _ | ⟨n2, _ | ⟨n3, ns⟩⟩⟩
        · exact absurd h Bool.false_ne_true
        · cases n1 <;> exact absurd h Bool.false_ne_true
        · cases n1 with
          | Name x px =>
            cases n2 with
            | Name y py =>
              cases v with
              | Tuple vs k2 p2 =>
                rcases vs with _ | ⟨a, _ | ⟨b, _ | ⟨d, vs⟩⟩⟩
                · exact absurd h Bool.false_ne_true
                · exact absurd h Bool.false_ne_true
                · exact ⟨_, _, _, _, _, _, _, _, _, _, _, rfl, h⟩
                · exact absurd h Bool.false_ne_true
              | _ => exact absurd h Bool.false_ne_true
            | _ => exact absurd h Bool.false_ne_true
          | _ => exact absurd h Bool.false_ne_true
        · cases n1 with
          | Name x px =>
            cases n2 <;> exact absurd h Bool.false_ne_true
          | _ => exact absurd h Bool.false_ne_true
      | _ => exact absurd h Bool.false_ne_true
    · exact (two_ts (by intro z; cases z) h).elim
  | _ => exact absurd h Bool.false_ne_true
theorem inv_app {c : Ct} {o a : LE} {st : Stmt} (h : chkS c (.app o a) st = true) : ∃ o' e' ap cp pos, st = .Expr (.Call (.Attribute o' ("append" : Str) ap) [e'] [] cp) pos ∧ baseB o' = true ∧ (ap.endLine == cp.line) = true ∧ chkE c o o' = true ∧ chkE c a e' = true := by
  cases st with
  | Expr v pos =>
    cases v with
    | Call g vs ks p =>
      cases g with
      | Attribute o' nm ap =>
        rcases vs with _ | ⟨v, _ | ⟨v2, vs⟩⟩
        · exact absurd h Bool.false_ne_true
        · cases ks with
          | nil =>
            obtain ⟨h1, r1⟩ := ba2 h
            obtain ⟨h2, r2⟩ := ba2 r1
            obtain ⟨h3, r3⟩ := ba2 r2
            obtain ⟨h4, r4⟩ := ba2 r3
            have e1 := of_decide_eq_true h1
            subst e1
            exact ⟨_, _, _, _, _, rfl, h2, h3, h4, r4⟩
          | cons _ _ => exact absurd h Bool.false_ne_true
        · exact absurd h Bool.false_ne_true
      | _ => exact absurd h Bool.false_ne_true
    | _ => exact absurd h Bool.false_ne_true
  | _ => exact absurd h Bool.false_ne_true
theorem inv_try {c : Ct} {i n y : Nat} {x : Str} {rs : List Str} {a : LE} {st : Stmt} (h : chkS c (.tryE i x rs n y a) st = true) : ∃ x1 p1 v p2 np xn xy p3 p4 p5 pos' pos, st = .Try [.Assign [.Name x1 p1] v p2] [.ExceptHandler (some (.Name x np)) (some xn) [.Assign [.Name xy p3] (.Name xn p4) p5] pos'] [] [] pos ∧
    x = c.T.top ∧ n ≠ y ∧ setOk c i x1 = true ∧ setOk c y xy = true ∧ c.N[n]? = some xn ∧ c.sc.names.lookup xn = some .local ∧ plainN xn = true ∧ glB c.sc x = true ∧ plainN x = true ∧ c.T.glo x = true ∧ (∀ z ∈ rs, z ∈ c.T.rs) ∧ notLc v = true ∧ chkE c a v = true := by
  unfold chkS at h
  split at h <;> first | exact absurd h Bool.false_ne_true | skip
  all_goals (rename_i heq; cases heq)
  obtain ⟨h1, r1⟩ := ba2 h
  obtain ⟨h2, r2⟩ := ba2 r1
  obtain ⟨h3, r3⟩ := ba2 r2
  obtain ⟨h4, r4⟩ := ba2 r3
  obtain ⟨h5, r5⟩ := ba2 r4
  obtain ⟨h6, r6⟩ := ba2 r5
  obtain ⟨h7, r7⟩ := ba2 r6
  obtain ⟨h8, r8⟩ := ba2 r7
  obtain ⟨h9, r9⟩ := ba2 r8
  obtain ⟨h10, r10⟩ := ba2 r9
  obtain ⟨h11, r11⟩ := ba2 r10
  obtain ⟨h12, r12⟩ := ba2 r11
  obtain ⟨h13, r13⟩ := ba2 r12
  obtain ⟨h14, r14⟩ := ba2 r13
  have e1 := of_decide_eq_true h1
  have e3 := of_decide_eq_true h3
  subst e1 e3
  exact ⟨_, _, _, _, _, _, _, _, _, _, _, _, rfl, of_decide_eq_true h2, of_decide_eq_true h4, h5, h6, of_decide_eq_true h7, eq_of_beq h8, h9, h10, h11, h12, fun z hz => by simpa using List.all_eq_true.mp h13 z hz, h14 |> fun z => z, r14⟩
theorem inv_rai {c : Ct} {x : Str} {st : Stmt} (h : chkS c (.rai x) st = true) : ∃ m j p p2 p3 pos, st = .Raise (some (.Call (.Name x p) [.Constant (.str m) j p2] [] p3)) none pos ∧ (glB c.sc x && (c.T.exc x && plainN x)) = true := by
  cases st with
  | Raise e f pos =>
    cases e with
    | none => exact absurd h Bool.false_ne_true
    | some e =>
      cases e with
      | Call g vs ks p3 =>
        cases g with
        | Name y p =>
          rcases vs with _ | ⟨v, _ | ⟨v2, vs⟩⟩
          · exact absurd h Bool.false_ne_true
          · cases v with
            | Constant q j p2 =>
              cases q with
              | str m =>
                cases ks with
                | nil =>
                  cases f with
                  | none =>
                    obtain ⟨h1, h2⟩ := ba2 h
                    have := of_decide_eq_true h1
                    subst this
                    exact ⟨_, _, _, _, _, _, rfl, h2⟩
                  | some _ => exact absurd h Bool.false_ne_true
                | cons _ _ => exact absurd h Bool.false_ne_true
              | _ => exact absurd h Bool.false_ne_true
            | _ => exact absurd h Bool.false_ne_true
          · cases v with
            | Constant q j p2 => cases q <;> exact absurd h Bool.false_ne_true
            | _ => exact absurd h Bool.false_ne_true
        | _ => exact absurd h Bool.false_ne_true
      | _ => exact absurd h Bool.false_ne_true
  | _ => exact absurd h Bool.false_ne_true
mutual
theorem sndS : ∀ (s : LS) (c : Ct) (st : Stmt), chkS c s st = true → ∀ (X : Cx) (E : XK), OkC X c cf K mg k → FunX X → Takes X (WS E) → PassesOwn (model X.prog X.w) X.A X.env X.xe → PS X st (TSv K mg E (exS cf s))
  | .set i e, c, st, h, X, E, o, fx, tk, hp => by
    cases st with
    | Assign ts v p =>
      rcases ts with _ | ⟨t, _ | ⟨t2, ts⟩⟩
      · exact absurd h Bool.false_ne_true
      · cases t with
        | Name x py =>
          obtain ⟨h1, h2⟩ := ba2 h
          obtain ⟨h2, h3⟩ := ba2 h2
          obtain ⟨n1, n2, n3⟩ := name_loc o h1
          refine sS_set o.nd n1 n2 ((sndE e c v h3).1 X _ o tk) ?_ n3
          rcases Bool.or_eq_true_iff.mp h2 with h2 | h2
          · exact lcn h2
          · cases v with
            | ListComp elt gs scope p =>
              exact swaps_cell (by
                rw [o.es]
                have h2' : (!(c.sc.names.lookup x == some .local)) = true := h2
                intro z
                rw [z] at h2'
                exact absurd h2' (by decide))
            | _ => exact absurd h2 Bool.false_ne_true
        | _ => exact absurd h Bool.false_ne_true
      · exact (two_ts (by intro z; cases z) h).elim
    | _ => exact absurd h Bool.false_ne_true
  | .setLc i e, c, st, h, X, E, o, fx, tk, hp => by
    cases st with
    | Assign ts v p =>
      rcases ts with _ | ⟨t, _ | ⟨t2, ts⟩⟩
      · exact absurd h Bool.false_ne_true
      · cases t with
        | Name x py =>
          cases v with
          | ListComp elt gs scope pp =>
            obtain ⟨h1, h2⟩ := ba2 h
            obtain ⟨h2, h3⟩ := ba2 h2
            obtain ⟨h3, h4⟩ := ba2 h3
            obtain ⟨h4, h5⟩ := ba2 h4
            have hy : X.env.scope.names.lookup x = some .local := by rw [o.es]; exact eq_of_beq h2
            have hsw : swapsWith (.ListComp elt gs scope pp) (some (.Name x py)) p.line X.env = pure true :=
              sw_true (by rw [o.es]; exact o.kind) hy h3 (by simpa using h4)
            have hi : X.N[i]? = some x := by rw [o.eN]; exact of_decide_eq_true h1
            cases e with
            | lc vs s tg co e =>
              obtain ⟨elt', t, it, ifs, scope', p', hh, u1, u2, u3, u4, u5, u6, u7⟩ := inv_lc h5
              cases hh
              have g1 := sndI (cf := cf) (K := K) (mg := mg) (k := k) s c it t u4
              have g2 := sndF (cf := cf) (K := K) (mg := mg) (k := k) co (c.blk scope) ifs u6
              have g3 := sndE (cf := cf) (K := K) (mg := mg) (k := k) e (c.blk scope) elt u7
              have ok : BlkOk X.N X.env.scope scope (ownOf c.N vs) := by
                rw [o.eN, o.es]
                exact blkOk_by u1
              exact sS_setLc (own_map vs) (sub_of u2) o.calm o.nd hi hy hsw (g1 X _ o tk) ok (fun s H C cl fp => sndT (o.blk ok.kind s H C cl fp) u5) (fun s H C cl fp => g2 _ (o.blk ok.kind s H C cl fp)) (fun s H C cl fp => g3.1 _ _ (o.blk ok.kind s H C cl fp) takes0) (fold_of2 u3 _)
            | lc2 vs vs1 s tg co s1 tg1 co1 e =>
              obtain ⟨elt', t, it, ifs, t1, it1, ifs1, scope', p', hh, u1, u2, u3, u4, u5, u6, u7, u8, u9, u10, u11, u12, u13⟩ := inv_lc2 h5
              cases hh
              have g1 := sndI (cf := cf) (K := K) (mg := mg) (k := k) s c it t u4
              have g2 := sndF (cf := cf) (K := K) (mg := mg) (k := k) co (c.blk scope) ifs u6
              have g3 := sndI (cf := cf) (K := K) (mg := mg) (k := k) s1 (c.blk scope) it1 t1 u10
              have g4 := sndF (cf := cf) (K := K) (mg := mg) (k := k) co1 (c.blk scope) ifs1 u12
              have g5 := sndE (cf := cf) (K := K) (mg := mg) (k := k) e (c.blk scope) elt u13
              have ok : BlkOk X.N X.env.scope scope (ownOf c.N vs) := by
                rw [o.eN, o.es]
                exact blkOk_by u1
              exact sS_setLc2 (own_map vs) (by rw [← own_map (c := c) vs]; exact sub_of u7) (sub_of u2) (sub_of u8) o.calm o.nd hi hy hsw (g1 X _ o tk) ok (fun s H C cl fp => sndT (o.blk ok.kind s H C cl fp) u5) (fun s H C cl fp => g2 _ (o.blk ok.kind s H C cl fp))
                (fun s H C cl fp => g3 _ _ (o.blk ok.kind s H C cl fp) takes0) (fun s H C cl fp => sndT (o.blk ok.kind s H C cl fp) u11) (fun s H C cl fp => g4 _ (o.blk ok.kind s H C cl fp)) (fun s H C cl fp => g5.1 _ _ (o.blk ok.kind s H C cl fp) takes0) (fold_of2 u3 _) (fold_of2 u9)
            | unk =>
              refine ⟨fun pins s σ H D I q => ?_⟩
              obtain ⟨_, _, _, _, _, _, _, _, q⟩ := q
              exact q.elim
            | _ => exact absurd h5 (by simp [chkE, vwF2, vwCC, vwF1, vwM])
          | _ => exact absurd h Bool.false_ne_true
        | _ => exact absurd h Bool.false_ne_true
      · exact (two_ts (by intro z; cases z) h).elim
    | _ => exact absurd h Bool.false_ne_true
  | .asg (.nm _) e, c, st, h, X, E, o, fx, tk, hp => by
    exact (asg_nm h).elim
  | .asg (.tp is) e, c, st, h, X, E, o, fx, tk, hp => by
    cases st with
    | Assign ts v p =>
      rcases ts with _ | ⟨t, _ | ⟨t2, ts⟩⟩
      · exact absurd h Bool.false_ne_true
      · cases t with
        | Tuple ns kt pt =>
          obtain ⟨h1, h2⟩ := ba2 h
          obtain ⟨h2, h3⟩ := ba2 h2
          obtain ⟨h3, h4⟩ := ba2 h3
          exact sS_asgT o.eK o.calm o.nd o.fn (by rw [o.eN, o.es]; exact h1) ((sndE e c v h4).1 X _ o tk) (ss_tup o.es o.kind h3) sw_tup
        | _ => exact absurd h Bool.false_ne_true
      · exact (two_ts (by intro z; cases z) h).elim
    | _ => exact absurd h Bool.false_ne_true
  | .par i j es, c, st, h, X, E, o, fx, tk, hp => by
    obtain ⟨x, px, y, py, kt, pt, a, b, k2, p2, pos, rfl, h⟩ := inv_par h
    obtain ⟨h1, h⟩ := ba2 h
    obtain ⟨h2, h⟩ := ba2 h
    obtain ⟨h3, h⟩ := ba2 h
    obtain ⟨h4, h⟩ := ba2 h
    obtain ⟨h5, h⟩ := ba2 h
    obtain ⟨h6, h⟩ := ba2 h
    obtain ⟨h7, h⟩ := ba2 h
    obtain ⟨h8, h⟩ := ba2 h
    have g := sndA (cf := cf) (K := K) (mg := mg) (k := k) es c [a, b] h
    have e4 := h4
    have e5 := h5
    refine sS_par o.calm o.nd (by rw [o.eN]; exact of_decide_eq_true h1) (by rw [o.eN]; exact of_decide_eq_true h2) (of_decide_eq_true h3) (by rw [o.es]; exact eq_of_beq h4) (by rw [o.es]; exact eq_of_beq h5) (g.1 X _ o tk) ?_
    have hh := swapped_yes (env := X.env) (k := kt) (k2 := k2) (p := pt) (p2 := p2) (ts := [.Name x px, .Name y py]) (vs := [a, b]) (by rw [o.es]; exact o.kind) (List.all_eq_true.mpr fun z hz => by rw [g.2 z hz]; rfl) (by rw [o.es]; exact h8)
    rw [hh]
    have en : swNames X.env.scope (headLine [.Name x px, .Name y py]) [.Name x px, .Name y py] = [x, y] := by
      rw [o.es]
      have e6 := of_decide_eq_true h6
      simp only [swNames, headLine, List.head?, Option.map, Option.getD, Expr.pos, List.filterMap, e4, e5, e6]
      simp
    rw [en]
  | .stI a i e, c, st, h, X, E, o, fx, tk, hp => by
    cases st with
    | Assign ts v p =>
      rcases ts with _ | ⟨t, _ | ⟨t2, ts⟩⟩
      · exact absurd h Bool.false_ne_true
      · cases t with
        | Subscript o' i' p' =>
          obtain ⟨h1, h2⟩ := ba2 h
          obtain ⟨h2, h3⟩ := ba2 h2
          obtain ⟨h3, h4⟩ := ba2 h3
          exact sS_stI ((sndE e c v h4).1 X _ o tk) ((sndE a c o' h2).1 X _ o tk) ((sndE i c i' h3).1 X _ o tk) h1 sw_sub ss_sub
        | _ => exact absurd h Bool.false_ne_true
      · exact (two_ts (by intro z; cases z) h).elim
    | _ => exact absurd h Bool.false_ne_true
  | .ex e, c, st, h, X, E, o, fx, tk, hp => by
    cases st with
    | Expr v p =>
      obtain ⟨h1, h2⟩ := ba2 h
      exact sS_expr ((sndE e c v h2).1 X _ o tk) (lcn h1)
    | _ => exact absurd h Bool.false_ne_true
  | .ret e, c, st, h, X, E, o, fx, tk, hp => by
    cases st with
    | Return v p =>
      cases v with
      | some v => exact sS_ret ((sndE e c v h).1 X _ o tk)
      | none => exact absurd h Bool.false_ne_true
    | _ => exact absurd h Bool.false_ne_true
  | .ifs t a b, c, st, h, X, E, o, fx, tk, hp => by
    cases st with
    | If t' a' b' p =>
      obtain ⟨h1, h2⟩ := ba2 h
      obtain ⟨h2, h3⟩ := ba2 h2
      obtain ⟨h3, h4⟩ := ba2 h3
      exact sS_if ((sndE t c t' h2).2 h1 X _ o tk) (sndBk a c a' h3 X E o fx tk hp) (sndBk b c b' h4 X E o fx tk hp)
    | _ => exact absurd h Bool.false_ne_true
  | .whl t b, c, st, h, X, E, o, fx, tk, hp => by
    cases st with
    | While t' b' e' p =>
      cases e' with
      | nil =>
        obtain ⟨h1, h2⟩ := ba2 h
        obtain ⟨h2, h3⟩ := ba2 h2
        exact sS_while hp ((sndE t c t' h2).2 h1 X _ o tk) (sndBk b c b' h3 X E o fx tk hp)
      | cons _ _ => exact absurd h Bool.false_ne_true
    | _ => exact absurd h Bool.false_ne_true
  | .for_ s tg b, c, st, h, X, E, o, fx, tk, hp => by
    cases st with
    | For t it b' e' p =>
      cases e' with
      | nil =>
        obtain ⟨h1, h2⟩ := ba2 h
        obtain ⟨h2, h3⟩ := ba2 h2
        obtain ⟨h3, h4⟩ := ba2 h3
        exact sS_for hp o.calm (sndI s c it t h2 X _ o tk) (sndT o h3) (sndBk b c b' h4 X E o fx tk hp) (fold_of2 h1 _)
      | cons _ _ => exact absurd h Bool.false_ne_true
    | _ => exact absurd h Bool.false_ne_true
  | .rai x, c, st, h, X, E, o, fx, tk, hp => by
    obtain ⟨m, j, p, p2, p3, pos, rfl, hh⟩ := inv_rai h
    obtain ⟨u1, u2⟩ := ba2 hh
    obtain ⟨u2, u3⟩ := ba2 u2
    exact sS_raise o.eK o.em o.calm tk (o.exc x u2) (gl_of o u1) (plain_of u3).1
  | .app a b, c, st, h, X, E, o, fx, tk, hp => by
    obtain ⟨o', e', ap, cp, pos, rfl, h1, h2, h3, h4⟩ := inv_app h
    exact sS_app o.eK h1 h2 (chkE_star h4) ((sndE a c o' h3).1 X _ o tk) ((sndE b c e' h4).1 X _ o tk)
  | .tryE i x rs n y a, c, st, h, X, E, o, fx, tk, hp => by
    obtain ⟨x1, p1, v, p2, np, xn, xy, p3, p4, p5, pos', pos, rfl, h1, h2, h3, h4, h5, h6, h7, h8, h9, h10, h11, h12, h13⟩ := inv_try h
    obtain ⟨n1, n2, n3⟩ := name_loc o h3
    obtain ⟨m1, m2, m3⟩ := name_loc o h4
    exact sS_try fx o.eK o.em o.nd tk n1 n2 n3 (by rw [o.eN]; exact h5) (by rw [o.es]; exact h6) (plain_of h7).1 (plain_of h7).2 m1 m2 m3 h2 (gl_of o h8) (plain_of h9).1 (fun z hz => by rw [h1]; exact o.cau z (h11 z hz)) (lcn h12)
      (fun W qn ye tkW => (sndE a c v h13).1 (X.tr qn ye) W (o.tr qn ye) tkW) (o.glo x h10)
  | .sunk, c, st, h, X, E, o, fx, tk, hp => by
    refine ⟨fun pins s σ H D I q => ?_⟩
    obtain ⟨_, _, _, _, _, _, _, _, q⟩ := q
    exact q.elim
  | .pass, c, st, h, X, E, o, fx, tk, hp => by
    cases st with
    | Pass p => exact sS_pass
    | _ => exact absurd h Bool.false_ne_true
theorem sndBk : ∀ (b : LB) (c : Ct) (sts : List Stmt), chkB c b sts = true → ∀ (X : Cx) (E : XK), OkC X c cf K mg k → FunX X → Takes X (WS E) → PassesOwn (model X.prog X.w) X.A X.env X.xe → PSs X sts (TSv K mg E (exB cf b))
  | .nil, c, [], h, X, E, o, fx, tk, hp => sS_nil
  | .nil, c, _ :: _, h, X, E, o, fx, tk, hp => absurd h Bool.false_ne_true
  | .cons s b, c, [], h, X, E, o, fx, tk, hp => absurd h Bool.false_ne_true
  | .cons s b, c, st :: sts, h, X, E, o, fx, tk, hp => by
    obtain ⟨h1, h2⟩ := ba2 (show (chkS c s st && chkB c b sts) = true from h)
    exact sS_cons (sndS s c st h1 X E o fx tk hp) (sndBk b c sts h2 X E o fx tk hp)
end
end
end LC

end
section
set_option maxHeartbeats 2000000
/-! LC19: defs of the text, the whole row, the law's end. -/
namespace LC
open PySem PySem.Spec PyProof.Rows L2
/-! ### binding -/
theorem zip_lookup {us : List Value} : ∀ {ps : List Str} {n : Str}, n ∈ ps → us.length = ps.length → ((ps.zip us).lookup n).isSome = true := by
  induction us with
  | nil => intro ps n h hl; cases ps with
    | nil => cases h
    | cons _ _ => cases hl
  | cons u us ih =>
    intro ps n h hl
    cases ps with
    | nil => cases h
    | cons p ps =>
      rw [List.zip_cons_cons, List.lookup_cons]
      by_cases e : n == p
      · rw [e]; rfl
      · have e' : (n == p) = false := by simpa using e
        rw [e']
        refine ih ?_ (by simpa using hl)
        rcases List.mem_cons.mp h with rfl | h
        · simp at e'
        · exact h
theorem zip_back : ∀ (ps : List Str) (us : List Value) (l : List (Str × Value)), ps.Nodup → us.length = ps.length → (∀ n, n ∈ ps → l.lookup n = none) → ps.filterMap (fun n => ((l ++ ps.zip us).lookup n).map (n, ·)) = ps.zip us := by
  intro ps
  induction ps with
  | nil => intro us l _ _ _; rfl
  | cons p ps ih =>
    intro us l nd hl hn
    cases us with
    | nil => cases hl
    | cons u us =>
      have h1 : (l ++ (p :: ps).zip (u :: us)).lookup p = some u := by
        rw [List.lookup_append, hn p List.mem_cons_self, List.zip_cons_cons, List.lookup_cons_self]
        rfl
      rw [List.filterMap_cons, h1]
      show (p, u) :: _ = (p, u) :: _
      congr 1
      have h2 := ih us (l ++ [(p, u)]) (List.nodup_cons.mp nd).2 (by simpa using hl) fun n h => by
        rw [List.lookup_append, hn n (List.mem_cons_of_mem _ h)]
        have hne : (n == p) = false := by
          rw [beq_eq_false_iff_ne]
          rintro rfl
          exact (List.nodup_cons.mp nd).1 h
        simp [List.lookup_cons, hne]
      rw [List.append_assoc] at h2
      exact h2
theorem bind_plain {x qual : Str} {as : List Arg} {body : List Stmt} {scope : Scope} {kV doc pm : Value} {an : Option Addr} {cdv ct : Value} {us : List Value} (nd : (as.map (·.arg)).Nodup) (hl : us.length = (as.map (·.arg)).length) :
    bindArgs (PySem.W.fnOf x qual ⟨[], as, none, [], [], none, []⟩ body scope .none kV doc pm an cdv ct) ⟨us, []⟩ = pure ((as.map (·.arg)).zip us) := by
  have e1 : seqItems? .none = pure none := rfl
  unfold bindArgs
  simp only [PySem.W.fnOf, List.map_nil, List.nil_append, e1, pure_bind, Option.getD_none, List.length_nil, List.drop_nil, List.forIn_nil, List.append_nil]
  generalize as.map (·.arg) = ps at nd hl
  have h3 : ps.filterMap (fun n => ((ps.zip us).lookup n).map (n, ·)) = ps.zip us := zip_back ps us [] nd hl (fun _ _ => rfl)
  have h4 : ps.filter (fun n => ((ps.zip us).lookup n).isNone) = [] := by
    rw [List.filter_eq_nil_iff]
    intro n hn
    have := zip_lookup (us := us) hn hl
    rw [Option.isSome_iff_ne_none] at this
    simpa using this
  have h5 : ¬ (us.length > ps.length) := by omega
  simp [h4, h5, h3, hl]
/-! ### the text's defs -/
structure Fn where
  np : Nat
  ns : Nat
  body : LB
def endF : Fl → M D
  | .nx _ => M.pure .non
  | .rt d => M.pure d
def runF (fs : Str → Option Fn) : Nat → Str → List D → M D
  | 0, _, _ => M.bad
  | k + 1, f, ds => match fs f with
    | none => M.bad
    | some F => M.bind (exB (runF fs k) F.body (ds.map some ++ List.replicate (F.ns - ds.length) none)) endF
def chkFn (T : Tb) (F : Fn) (N : List Str) (p : Arguments) (body : List Stmt) (sc : Scope) : Bool :=
  (p.posonlyargs.isEmpty && (p.vararg.isNone && (p.kwonlyargs.isEmpty && (p.kw_defaults.isEmpty && (p.kwarg.isNone && p.defaults.isEmpty))))) && (p.args.length == F.np && (N.length == F.ns && (C8.scC N (p.args.map (·.arg)) sc && chkB ⟨N, sc, fun _ => true, T⟩ F.body body)))
structure En where
  x : Str
  F : Fn
  N : List Str
  i : Nat
def fsOf (t : List En) (x : Str) : Option Fn := (t.find? fun e => e.x == x).map (·.F)
def ddOf (top : Nat → Stmt) (e : En) : He.DefD := ⟨(e.x, none), e.x, e.x, defArgs (top e.i), defBody (top e.i), defScope (top e.i), [], []⟩
def topE : Str := "ColourError"
/-- the row's own exceptions: raised, named in isinstance; nothing of it where none is caught -/
structure Ex where
  rs : List Str
  nm : List Str
def tbOf (t : List En) (frees excs : List Str) (ex : Ex) : Tb := ⟨fun x => (fsOf t x).map (·.np), fun x => frees.contains x, fun x => (t.any fun e => e.x == x) || (ex.nm.contains x || x == topE && !ex.rs.isEmpty), fun x => excs.contains x, topE, ex.rs, fun x => ex.nm.contains x⟩
def faOf (t : List En) (frees excs : List Str) (ex : Ex) : List He.Fa := t.map (fun e => .glo e.x) ++ (frees.map .free ++ (excs.map .glo ++ (excs.map .exc ++ (ex.nm.map .glo ++ (ex.rs.map .glo ++ if ex.rs.isEmpty = true then [] else [.glo topE])))))
def chkAll (top : Nat → Stmt) (t : List En) (frees excs : List Str) (ex : Ex) : Bool := t.all fun e => chkFn (tbOf t frees excs ex) e.F e.N (defArgs (top e.i)) (defBody (top e.i)) (defScope (top e.i))
structure FnF (P : Program) (w : World) (K : PySem.W.Frag) (mg : Str → Option Value) (base : Heap) (k : Nat) (f : Str) (np : Nat) (cf : List D → M D) (a : Addr) (fd : FuncData) (ps : List Str) : Prop where
  at_ : mg f = some (.ref a)
  kp : PySem.W.keepIn K (.ref a) = true
  bnd : ∀ (s : Shared) (us : List Value), us.length = ps.length → BindsTo s fd ⟨us, []⟩ (ps.zip us)
  len : ps.length = np
  ok : FnOk P w K mg base (L2.CX P w) k a fd ps (spF K mg np cf)
theorem FnF.to {P : Program} {w : World} {K : PySem.W.Frag} {mg : Str → Option Value} {base : Heap} {k np : Nat} {f : Str} {cf : List D → M D} {a : Addr} {fd : FuncData} {ps : List Str} (h : FnF P w K mg base k f np cf a fd ps) : FnAt P w K mg base k f np cf :=
  ⟨a, fd, ps, h.at_, h.kp, fun s us _ hl => by
    rw [List.append_nil] at hl ⊢
    exact h.bnd s us hl, h.len, h.ok⟩
/-- what the top leaves of the row's names -/
structure Names (K : PySem.W.Frag) (mg : Str → Option Value) (T : Tb) : Prop where
  free : ∀ x, T.free x = true → mg x = none
  glo : ∀ x, T.glo x = true → ∃ a, mg x = some (.ref a)
  exc : ∀ x, T.exc x = true → ExcF K mg x
  cau : ∀ z ∈ T.rs, Caught K mg T.top z
  judg : ∀ y, T.jud y = true → ∀ z ∈ T.rs, Judged K mg y z
  judv : ∀ z ∈ T.rs, JudgedV K mg z
section
variable {P : Program} {w : World} {K : PySem.W.Frag} {mg : Str → Option Value} {base : Heap} {fs : Str → Option Fn} {T : Tb} {x : Str} {F : Fn} {N : List Str} {p : Arguments} {body : List Stmt} {sc : Scope} {a : Addr} {fd : FuncData} {k : Nat}
theorem envR_start {A : At} {ds : List D} {vs : List V} (r : RelL A ds vs) (hl : ds.length = vs.length) (N : List Str) : EnvR A (ds.map some ++ List.replicate (N.length - ds.length) none) (L2.start N vs) := by
  refine ⟨by simp [L2.start, hl], fun i d h => ?_⟩
  by_cases hi : i < ds.length
  · rw [List.getElem?_append_left (by simpa using hi), List.getElem?_map] at h
    cases e : ds[i]? with
    | none => rw [e] at h; cases h
    | some d' =>
      rw [e] at h
      cases h
      obtain ⟨v, h1, h2⟩ := r.get e
      exact ⟨v, by unfold L2.start; rw [List.getElem?_append_left (by simpa [← hl] using hi), List.getElem?_map, h1]; rfl, h2⟩
  · rw [List.getElem?_append_right (by simpa using hi), List.getElem?_replicate] at h
    split at h <;> cases h
theorem fn_dat (FD : FunD K x x p body sc [] [] a fd) (hc : chkFn T F N p body sc = true) : (∀ (s : Shared) (us : List Value), us.length = (p.args.map (·.arg)).length → BindsTo s fd ⟨us, []⟩ ((p.args.map (·.arg)).zip us)) ∧ (p.args.map (·.arg)).length = F.np := by
  obtain ⟨h1, h2⟩ := ba2 hc
  obtain ⟨h2, h3⟩ := ba2 h2
  obtain ⟨h3, h4⟩ := ba2 h3
  obtain ⟨h4, h5⟩ := ba2 h4
  have S : FnScope N (p.args.map (·.arg)) sc := C8.fnScope_by h4
  have hp : p = ⟨[], p.args, none, [], [], none, []⟩ := by
    obtain ⟨t1, u⟩ := ba2 h1
    obtain ⟨t2, u⟩ := ba2 u
    obtain ⟨t3, u⟩ := ba2 u
    obtain ⟨t4, u⟩ := ba2 u
    obtain ⟨t5, t6⟩ := ba2 u
    rcases p with ⟨q1, q2, q3, q4, q5, q6, q7⟩
    have t1 : q1 = [] := List.isEmpty_iff.mp t1
    have t2 : q3 = none := Option.isNone_iff_eq_none.mp t2
    have t3 : q4 = [] := List.isEmpty_iff.mp t3
    have t4 : q5 = [] := List.isEmpty_iff.mp t4
    have t5 : q6 = none := Option.isNone_iff_eq_none.mp t5
    have t6 : q7 = [] := List.isEmpty_iff.mp t6
    rw [t1, t2, t3, t4, t5, t6]
  have hnp : p.args.length = F.np := eq_of_beq h2
  have nd : (p.args.map (·.arg)).Nodup := by rw [← S.pre]; exact S.nd.sublist (List.take_sublist _ _)
  refine ⟨fun s us hl => FunD.bindsA FD (ps := p.args.map (·.arg)) (fun kV doc pm an cdv ct us hl => ?_) s us hl, by simpa using hnp⟩
  rw [hp]
  exact bind_plain nd hl
theorem fn_step (nm : Names K mg T) (ef : fs x = some F) (hm : mg x = some (.ref a)) (FD : FunD K x x p body sc [] [] a fd) (hc : chkFn T F N p body sc = true) (fns : ∀ f n, T.ar f = some n → FnAt P w K mg base (k + 1) f n (runF fs k f)) :
    FnF P w K mg base (k + 2) x F.np (runF fs (k + 1) x) a fd (p.args.map (·.arg)) := by
  obtain ⟨h1, h2⟩ := ba2 hc
  obtain ⟨h2, h3⟩ := ba2 h2
  obtain ⟨h3, h4⟩ := ba2 h3
  obtain ⟨h4, h5⟩ := ba2 h4
  have S : FnScope N (p.args.map (·.arg)) sc := C8.fnScope_by h4
  have hnp : p.args.length = F.np := eq_of_beq h2
  have hns : N.length = F.ns := eq_of_beq h3
  refine ⟨hm, FD.kp, (fn_dat FD hc).1, (fn_dat FD hc).2, ?_⟩
  · refine FD.ok S (fun vs H Q E h => by rw [h.1]; simpa using hnp.symm) fun cdv A outer s H vs Q E hr hsp => ?_
    refine ⟨TSv K mg E (exB (runF fs k) F.body), ?_, ?_⟩
    · refine sndBk (k := k) F.body ⟨N, sc, fun _ => true, T⟩ body h5 _ E ?_ ⟨rfl, rfl, rfl⟩ (takes_of rfl rfl rfl rfl) (passes_of rfl)
      exact ⟨rfl, rfl, S.kind, fun _ _ => rfl, rfl, rfl, S.nd, rfl, hr, fns, nm.free, nm.glo, nm.exc, nm.cau, nm.judg, nm.judv⟩
    · obtain ⟨hl, B, ds, St, eK, em, eH, g, r, h⟩ := hsp
      refine ⟨B, _, St, eK, em, eH, g, envR_start r r.len.symm N, ?_⟩
      have hl2 : ds.length = vs.length := r.len.symm
      have h : Post Rel B (runF fs (k + 1) x ds St) Q E := h
      unfold runF at h
      rw [ef] at h
      have h : Post Rel B ((exB (runF fs k) F.body (ds.map some ++ List.replicate (F.ns - ds.length) none) St).bind endF) Q E := h
      rw [hns]
      cases e : exB (runF fs k) F.body (ds.map some ++ List.replicate (F.ns - ds.length) none) St with
      | ok f S1 =>
        rw [e] at h
        cases f with
        | nx ρ => exact fun σ' C x1 g1 _ => h .non C x1 g1 rfl
        | rt d => exact fun v C x1 g1 r1 => h v C x1 g1 r1
      | exc y S1 => rw [e] at h; exact h
      | bad => rw [e] at h; exact h
end
section
variable {P : Program} {w : World} {K : PySem.W.Frag} {mg : Str → Option Value} {base : Heap} {top : Nat → Stmt} {t : List En} {frees excs : List Str} {ex : Ex}
theorem fs_en {x : Str} {F : Fn} (h : fsOf t x = some F) : ∃ e ∈ t, e.x = x ∧ e.F = F := by
  obtain ⟨e, h1, rfl⟩ := Option.map_eq_some_iff.mp h
  refine ⟨e, List.mem_of_find?_eq_some h1, ?_, rfl⟩
  have := List.find?_some h1
  exact eq_of_beq this
theorem names_of {fn : List He.DefD} {h : Heap} (c : He.SaysD (faOf t frees excs ex) fn K) (cx : excsB ex.rs ex.nm topE K = true) (KX : K.In h) (G : h.Ns mainGlobals mg) : Names K mg (tbOf t frees excs ex) := by
  have fact : ∀ f : He.Fa, f ∈ faOf t frees excs ex → f.ok K = true := fun f hf => c.facts hf
  have gl : ∀ x, He.Fa.glo x ∈ faOf t frees excs ex → mg x = some (.ref (He.ga K x)) := fun x hx => He.glo_ok KX G (fact _ hx)
  have gNm : ∀ x ∈ ex.nm, mg x = some (.ref (He.ga K x)) := fun x hx => gl x (List.mem_append_right _ (List.mem_append_right _ (List.mem_append_right _ (List.mem_append_right _ (List.mem_append_left _ (List.mem_map_of_mem (f := He.Fa.glo) hx))))))
  have gRs : ∀ x ∈ ex.rs, mg x = some (.ref (He.ga K x)) := fun x hx => gl x (List.mem_append_right _ (List.mem_append_right _ (List.mem_append_right _ (List.mem_append_right _ (List.mem_append_right _ (List.mem_append_left _ (List.mem_map_of_mem (f := He.Fa.glo) hx)))))))
  have gTop : ex.rs.isEmpty = false → mg topE = some (.ref (He.ga K topE)) := fun hx => gl topE (List.mem_append_right _ (List.mem_append_right _ (List.mem_append_right _ (List.mem_append_right _ (List.mem_append_right _ (List.mem_append_right _ (by rw [hx]; simp)))))))
  have one : ∀ z ∈ ex.rs, excB K (He.ga K z) = true ∧ PySem.W.exmOne K (.ref (He.ga K z)) (.ref (He.ga K topE)) = some true ∧ PySem.W.kitOne K (.ref (He.ga K z)) (.type "ValueError") = some true ∧ ∀ y ∈ ex.nm, PySem.W.kitOne K (.ref (He.ga K z)) (.ref (He.ga K y)) = some (z == y) := fun z hz => by
    have h1 := List.all_eq_true.mp cx z hz
    obtain ⟨a1, b1⟩ := ba2 h1
    obtain ⟨a2, b2⟩ := ba2 b1
    obtain ⟨a3, b3⟩ := ba2 b2
    exact ⟨a1, of_decide_eq_true a2, of_decide_eq_true a3, fun y hy => of_decide_eq_true (List.all_eq_true.mp b3 y hy)⟩
  have ne : ∀ z ∈ ex.rs, ex.rs.isEmpty = false := fun z hz => by
    cases q : ex.rs with
    | nil => rw [q] at hz; cases hz
    | cons _ _ => rfl
  refine ⟨fun x hx => ?_, fun x hx => ?_, fun x hx => ?_, fun z hz => ⟨_, _, gRs z hz, gTop (ne z hz), (one z hz).2.1⟩, fun y hy z hz => ?_, fun z hz => ⟨_, gRs z hz, excB_ok (one z hz).1, (one z hz).2.2.1⟩⟩
  · have hx : x ∈ frees := by simpa [tbOf] using hx
    exact He.free_ok KX G (fact _ (List.mem_append_right _ (List.mem_append_left _ (List.mem_map_of_mem (f := He.Fa.free) hx))))
  · have hx : ((t.any fun e => e.x == x) || (ex.nm.contains x || x == topE && !ex.rs.isEmpty)) = true := hx
    rcases Bool.or_eq_true_iff.mp hx with hx | hx
    · obtain ⟨e, he, hh⟩ := List.any_eq_true.mp hx
      have := eq_of_beq hh
      subst this
      exact ⟨_, gl e.x (List.mem_append_left _ (List.mem_map_of_mem (f := fun e : En => He.Fa.glo e.x) he))⟩
    · rcases Bool.or_eq_true_iff.mp hx with hx | hx
      · exact ⟨_, gNm x (by simpa using hx)⟩
      · obtain ⟨h1, h2⟩ := ba2 hx
        have := eq_of_beq h1
        subst this
        exact ⟨_, gTop (by simpa using h2)⟩
  · have hx : x ∈ excs := by simpa [tbOf] using hx
    have h1 := gl x (List.mem_append_right _ (List.mem_append_right _ (List.mem_append_left _ (List.mem_map_of_mem (f := He.Fa.glo) hx))))
    have h2 := He.exc_ok (fact (.exc x) (List.mem_append_right _ (List.mem_append_right _ (List.mem_append_right _ (List.mem_append_left _ (List.mem_map_of_mem (f := He.Fa.exc) hx))))))
    exact ⟨_, h1, h2⟩
  · have hy : y ∈ ex.nm := by simpa [tbOf] using hy
    exact ⟨_, _, gRs z hz, gNm y hy, excB_ok (one z hz).1, (one z hz).2.2.2 y hy⟩
theorem row_ok {h : Heap} (c : He.SaysD (faOf t frees excs ex) (t.map (ddOf top)) K) (cx : excsB ex.rs ex.nm topE K = true) (KX : K.In h) (G : h.Ns mainGlobals mg) (hc : chkAll top t frees excs ex = true) :
    ∀ (k : Nat) (x : Str) (F : Fn), fsOf t x = some F → ∃ fd ps, (∃ e ∈ t, e.x = x ∧ ps = (defArgs (top e.i)).args.map (·.arg)) ∧ ∀ base, FnF P w K mg base (k + 1) x F.np (runF (fsOf t) k x) (He.ga K x) fd ps := by
  have base_ : ∀ (x : Str) (F : Fn), fsOf t x = some F → ∃ (e : En) (fd : FuncData), e ∈ t ∧ e.x = x ∧ e.F = F ∧ chkFn (tbOf t frees excs ex) e.F e.N (defArgs (top e.i)) (defBody (top e.i)) (defScope (top e.i)) = true ∧ mg x = some (.ref (He.ga K x)) ∧ FunD K x x (defArgs (top e.i)) (defBody (top e.i)) (defScope (top e.i)) [] [] (He.ga K x) fd := by
    intro x F hx
    obtain ⟨e, he, rfl, rfl⟩ := fs_en hx
    obtain ⟨fd, FD⟩ := c.defs (d := ddOf top e) (List.mem_map_of_mem he)
    have h1 := He.glo_ok KX G (c.facts (f := .glo e.x) (List.mem_append_left _ (List.mem_map_of_mem (f := fun e : En => He.Fa.glo e.x) he)))
    exact ⟨e, fd, he, rfl, rfl, List.all_eq_true.mp hc e he, h1, FD⟩
  have nm := names_of c cx KX G
  intro k
  induction k with
  | zero =>
    intro x F hx
    obtain ⟨e, fd, he, rfl, rfl, h1, h2, FD⟩ := base_ x F hx
    refine ⟨fd, _, ⟨e, he, rfl, rfl⟩, fun base => ⟨h2, FD.kp, (fn_dat FD h1).1, (fn_dat FD h1).2, ⟨fun vs H Q E q => ?_, fun A outer s H args us vs Q E _ _ _ _ q => ?_⟩⟩⟩
    · obtain ⟨_, _, _, _, _, _, _, _, _, q⟩ := q
      exact q.elim
    · obtain ⟨_, _, _, _, _, _, _, _, _, q⟩ := q
      exact q.elim
  | succ k ih =>
    intro x F hx
    obtain ⟨e, fd, he, rfl, rfl, h1, h2, FD⟩ := base_ x F hx
    refine ⟨fd, _, ⟨e, he, rfl, rfl⟩, fun base => fn_step nm hx h2 FD h1 fun f n hf => ?_⟩
    obtain ⟨F', hF', rfl⟩ := Option.map_eq_some_iff.mp (show (fsOf t f).map (·.np) = some n from hf)
    obtain ⟨fd', ps', _, g⟩ := ih f F' hF'
    exact (g base).to
end
/-! ### the law's end -/
theorem walk_end {l : PySem.W.OpenLaw} {n : Nat} {q : Program} {loose : List Str} {XP : (Str → Option Value) → Heap → Prop} {YP : World → Heap → Prop} {d : DefRec} {top : Nat → Stmt} {t : List En} {frees excs : List Str} {ex : Ex} {x : Str} {F : Fn} {k : Nat}
    (hn : l.most = some n) (hn2 : n ≤ sizeLine) (hdf : d.params.defaults = []) (hr : Room (k + 1) callerA) (hx : d.name = x) (hF : fsOf t x = some F) (hnp : F.np = 1)
    (hY : ∀ w h, YP w h → ∃ K : PySem.W.Frag, K.In h ∧ excsB ex.rs ex.nm topE K = true ∧ He.SaysD (faOf t frees excs ex) (t.map (ddOf top)) K)
    (hc : chkAll top t frees excs ex = true)
    (hlaw : ∀ ns : List Int, ns.length ≤ n → ∃ S, runF (fsOf t) k x [.lst (ns.map .int)] [] = .ok (.bl true) S) :
    PySem.W.WalkO q loose XP YP l.row.toRowW d [] (fun f vs => PySem.call f vs) := by
  refine Att.attach_call hn hdf fun w s₀ s₁ mg mb fa o pm cd doc a vs ns G Y ho hd hcd hmg hobj hints hlen hg => ?_
  obtain ⟨K, KX, cx, c⟩ := hY _ _ Y
  subst hx
  obtain ⟨fd, ps, _, R1⟩ := row_ok (P := l.prog) (w := w) c cx KX G.T.g hc k d.name F hF
  have e := hmg.symm.trans (R1 s₁.heap).at_
  cases e
  have hl1 : ps.length = 1 := by rw [(R1 s₁.heap).len]; exact hnp
  match ps, hl1, R1 with
  | [y], _, R1 =>
    refine law_call (x := y) KX G.T.g G.T.b G.T.builtins G.T.nolimit hg hobj hints (Nat.le_trans hlen hn2) hr (CX := L2.CX l.prog w) (fun base _ _ => (R1 base).ok) (fun s u => (R1 s.heap).bnd s [u] rfl) (fun H hO hS => ?_) fun H e s' h => ?_
    · have hz : (ns.map LC.D.int).length ≤ sizeLine := by rw [List.length_map]; exact Nat.le_trans hlen hn2
      have hR : RelL ⟨K, mg, [], fun _ => False, H⟩ (ns.map LC.D.int) (ns.map V.int) := by
        clear hobj hints hlen hS hz
        induction ns with
        | nil => rfl
        | cons n ns ih => exact ⟨_, _, rfl, rfl, ih⟩
      have hrd : At.rd ⟨K, mg, [], fun _ => False, H⟩ a (ns.map V.int) := by
        rcases hS with hS | hS
        · exact .inl ⟨by simp, fun z => z, hS⟩
        · exact .inr hS
      have hG : Gd ⟨K, mg, [], fun _ => False, H⟩ [] := ⟨rfl, fun i j p h => (by cases h), fun n c p h => (by cases h), fun p h => (by cases h), fun p h => h.elim⟩
      refine ⟨by rw [hnp]; rfl, ⟨K, mg, [], fun _ => False, H⟩, [.lst (ns.map .int)], [], rfl, rfl, rfl, hG, ⟨_, _, rfl, ⟨_, _, rfl, hrd, hz, hR⟩, rfl⟩, ?_⟩
      obtain ⟨S, hS⟩ := hlaw ns hlen
      rw [hS]
      exact fun v B x1 g1 r1 => r1
    · obtain ⟨_, _, _, _, _, _, _, _, _, _, _, _, z⟩ := h
      exact z
end LC

end
section
set_option maxHeartbeats 2000000
/-! P1: plain laws of the evaluator: walks, numbers, tuples of numbers, their order. -/
namespace LC
open PySem PySem.Spec PyProof.Rows L2
/-! ### what a run ends with -/
def Wp {α : Type} (r : R α) (Q : α → Store → Prop) : Prop := match r with
  | .ok a S => Q a S
  | _ => False
theorem Wp.bind {α β : Type} {r : R α} {f : α → M β} {Q : β → Store → Prop} (h : Wp r fun a S => Wp (f a S) Q) : Wp (r.bind f) Q := by
  cases r with
  | ok a S => exact h
  | _ => exact h.elim
theorem Wp.mono {α : Type} {r : R α} {Q Q' : α → Store → Prop} (h : Wp r Q) (i : ∀ a S, Q a S → Q' a S) : Wp r Q' := by
  cases r with
  | ok a S => exact i a S h
  | _ => exact h.elim
theorem Wp.ok {α : Type} {a : α} {S : Store} {Q : α → Store → Prop} (h : Q a S) : Wp (.ok a S) Q := h
theorem Wp.get {α : Type} {r : R α} {Q : α → Store → Prop} (h : Wp r Q) : ∃ a S, r = .ok a S ∧ Q a S := by
  cases r with
  | ok a S => exact ⟨a, S, rfl, h⟩
  | _ => exact h.elim
theorem Wp.of {α : Type} {r : R α} {a : α} {S : Store} {Q : α → Store → Prop} (e : r = .ok a S) (h : Q a S) : Wp r Q := by
  rw [e]; exact h
theorem Wp.bindM {α β : Type} {m : M α} {f : α → M β} {S : Store} {Q : β → Store → Prop} (h : Wp (m S) fun a S => Wp (f a S) Q) : Wp (M.bind m f S) Q := Wp.bind h
theorem Wp.nox {α : Type} {r : R α} {Q : α → Store → Prop} (h : Wp r Q) : Wp r.nox Q := by
  cases r with
  | ok a S => exact h
  | _ => exact h.elim
/-! ### walks -/
theorem wp_walkGo {β : Type} {xs : List D} {body : β → D → M β} (I : Nat → β → Store → Prop) (hs : ∀ i d b S', xs[i]? = some d → I i b S' → Wp (body b d S') (fun b' S'' => I (i + 1) b' S'')) :
    ∀ (n i : Nat) (acc : β) (S : Store), i + n = xs.length + 1 → i ≤ xs.length → I i acc S → Wp (walkGo (.fix xs) body n i acc S) (fun b S' => I xs.length b S') := by
  intro n
  induction n with
  | zero =>
    intro i acc S h1 h0 h2
    omega
  | succ n ih =>
    intro i acc S h1 h0 h2
    show Wp (match srcAt (.fix xs) S i with
      | none => .bad
      | some none => .ok acc S
      | some (some d) => (body acc d S).bind fun acc' => walkGo (.fix xs) body n (i + 1) acc') _
    have e : srcAt (.fix xs) S i = some xs[i]? := rfl
    rw [e]
    cases q : xs[i]? with
    | none =>
      have hi := List.getElem?_eq_none_iff.mp q
      have : i = xs.length := by omega
      subst this
      exact h2
    | some d =>
      have hi := (List.getElem?_eq_some_iff.mp q).1
      refine Wp.bind ((hs i d acc S q h2).mono fun b S' h3 => ih (i + 1) b S' (by omega) (by omega) h3)
theorem wp_walkAll {β : Type} {xs : List D} {body : β → D → M β} {acc : β} {S : Store} (I : Nat → β → Store → Prop) (h0 : I 0 acc S) (hs : ∀ i d b S', xs[i]? = some d → I i b S' → Wp (body b d S') (fun b' S'' => I (i + 1) b' S'')) :
    Wp (walkAll (.fix xs) body acc S) (fun b S' => I xs.length b S') := by
  show Wp (walkGo (.fix xs) body (xs.length + 1) 0 acc S) _
  exact wp_walkGo I hs _ _ _ _ (by omega) (Nat.zero_le _) h0
theorem wp_forGo {xs : List D} {tg : LT} {body : Env → M Fl} (I : Nat → Env → Store → Prop) (Q : Fl → Store → Prop)
    (hs : ∀ i d ρ S', xs[i]? = some d → I i ρ S' → ∃ ρ1, asgT tg d ρ = some ρ1 ∧ Wp (body ρ1 S') (fun f S'' => match f with
      | .nx ρ' => I (i + 1) ρ' S''
      | .rt d => Q (.rt d) S''))
    (hq : ∀ ρ S, I xs.length ρ S → Q (.nx ρ) S) :
    ∀ (n i : Nat) (ρ : Env) (S : Store), i + n = xs.length + 1 → i ≤ xs.length → I i ρ S → Wp (forGo (.fix xs) tg body n i ρ S) Q := by
  intro n
  induction n with
  | zero =>
    intro i ρ S h1 h0 h2
    omega
  | succ n ih =>
    intro i ρ S h1 h0 h2
    show Wp (match srcAt (.fix xs) S i with
      | none => .bad
      | some none => .ok (.nx ρ) S
      | some (some d) => match asgT tg d ρ with
        | none => .bad
        | some ρ1 => (body ρ1 S).bind fun f => match f with
          | .nx ρ2 => forGo (.fix xs) tg body n (i + 1) ρ2
          | .rt d => M.pure (.rt d)) _
    have e : srcAt (.fix xs) S i = some xs[i]? := rfl
    rw [e]
    cases q : xs[i]? with
    | none =>
      have hi := List.getElem?_eq_none_iff.mp q
      have : i = xs.length := by omega
      subst this
      exact hq _ _ h2
    | some d =>
      have hi := (List.getElem?_eq_some_iff.mp q).1
      obtain ⟨ρ1, e1, h3⟩ := hs i d ρ S q h2
      simp only [e1]
      refine Wp.bind (h3.mono fun f S' h4 => ?_)
      cases f with
      | nx ρ' => exact ih (i + 1) ρ' S' (by omega) (by omega) h4
      | rt d => exact h4
/-- for, over a source that stands -/
theorem wp_for {es : Env → M Src} {tg : LT} {body : Env → M Fl} {ρ : Env} {S S1 : Store} {xs : List D} (he : es ρ S = .ok (.fix xs) S1) (I : Nat → Env → Store → Prop) (Q : Fl → Store → Prop) (h0 : I 0 ρ S1)
    (hs : ∀ i d ρ S', xs[i]? = some d → I i ρ S' → ∃ ρ1, asgT tg d ρ = some ρ1 ∧ Wp (body ρ1 S') (fun f S'' => match f with
      | .nx ρ' => I (i + 1) ρ' S''
      | .rt d => Q (.rt d) S''))
    (hq : ∀ ρ S, I xs.length ρ S → Q (.nx ρ) S) : Wp (xFor es tg body ρ S) Q := by
  show Wp ((es ρ S).bind fun s => fun S => forGo s tg body (srcFuel s S) 0 ρ S) Q
  rw [he]
  exact wp_forGo I Q hs hq _ _ _ _ (by show 0 + (xs.length + 1) = _; omega) (Nat.zero_le _) h0
/-- [e for ..], with a state: each turn adds at most one -/
theorem wp_lc {vs : List Nat} {es : Env → M Src} {tg : LT} {ec : Option (Env → M D)} {ee : Env → M D} {ρ : Env} {S S1 : Store} {xs : List D} (he : es ρ S = .ok (.fix xs) S1) (I : Nat → List D → Store → Prop) (h0 : I 0 [] S1)
    (hs : ∀ i d acc S', xs[i]? = some d → I i acc S' → ∃ ρ', asgT tg d (wipeE ρ vs) = some ρ' ∧ Wp (condM ec ρ' S') (fun t S'' => if t = true then Wp (ee ρ' S'') (fun y S3 => I (i + 1) (acc ++ [y]) S3) else I (i + 1) acc S'')) :
    Wp (lcM vs es tg ec ee ρ S) (fun d S' => ∃ ys, d = .lst ys ∧ I xs.length ys S') := by
  show Wp ((es ρ S).bind fun s => M.bind (walkAll s (lcBody vs tg ec ee ρ) []) fun ys => M.pure (LC.D.lst ys)) _
  rw [he]
  show Wp (M.bind (walkAll (.fix xs) (lcBody vs tg ec ee ρ) []) (fun ys => M.pure (LC.D.lst ys)) S1) _
  refine Wp.bindM ((wp_walkAll (xs := xs) I h0 fun i d acc S' hx hI => ?_).mono fun ys S' h => ⟨ys, rfl, h⟩)
  obtain ⟨ρ', e1, h1⟩ := hs i d acc S' hx hI
  unfold lcBody
  rw [e1]
  refine Wp.bind (Wp.nox (h1.mono fun t S'' h2 => ?_))
  cases t with
  | true => exact Wp.bind (Wp.nox (h2.mono fun y S3 h3 => h3))
  | false => exact h2
/-- the same where nothing changes -/
theorem lc_eq {α : Type} {vs : List Nat} {es : Env → M Src} {tg : LT} {ec : Option (Env → M D)} {ee : Env → M D} {ρ : Env} {S : Store} (l : List α) (f : α → D) (p : α → Bool) (g : α → D) (he : es ρ S = .ok (.fix (l.map f)) S)
    (hs : ∀ a ∈ l, ∃ ρ', asgT tg (f a) (wipeE ρ vs) = some ρ' ∧ condM ec ρ' S = .ok (p a) S ∧ (p a = true → ee ρ' S = .ok (g a) S)) : lcM vs es tg ec ee ρ S = .ok (.lst ((l.filter p).map g)) S := by
  have h := wp_lc (vs := vs) (tg := tg) (ec := ec) (ee := ee) he (fun i acc S' => S' = S ∧ acc = ((l.take i).filter p).map g) ⟨rfl, rfl⟩ (fun i d acc S' hx hI => by
    obtain ⟨rfl, rfl⟩ := hI
    rw [List.getElem?_map] at hx
    cases q : l[i]? with
    | none => rw [q] at hx; cases hx
    | some a =>
      rw [q] at hx
      cases hx
      obtain ⟨ρ', e1, e2, e3⟩ := hs a (List.mem_of_getElem? q)
      have et : l.take (i + 1) = l.take i ++ [a] := by rw [List.take_add_one, q]; rfl
      refine ⟨ρ', e1, Wp.of e2 ?_⟩
      cases hp : p a with
      | true =>
        rw [if_pos rfl]
        refine Wp.of (e3 hp) ⟨rfl, ?_⟩
        rw [et, List.filter_append, List.map_append]
        simp [hp]
      | false =>
        rw [if_neg (by decide)]
        refine ⟨rfl, ?_⟩
        rw [et, List.filter_append, List.map_append]
        simp [hp])
  obtain ⟨d, S', e, ys, rfl, rfl, rfl⟩ := h.get
  rw [e, List.length_map, List.take_length]
theorem lc_map {α : Type} {vs : List Nat} {es : Env → M Src} {tg : LT} {ee : Env → M D} {ρ : Env} {S : Store} (l : List α) (f : α → D) (g : α → D) (he : es ρ S = .ok (.fix (l.map f)) S)
    (hs : ∀ a ∈ l, ∃ ρ', asgT tg (f a) (wipeE ρ vs) = some ρ' ∧ ee ρ' S = .ok (g a) S) : lcM vs es tg none ee ρ S = .ok (.lst (l.map g)) S := by
  have h := lc_eq (ec := none) l f (fun _ => true) g he fun a ha => by
    obtain ⟨ρ', e1, e2⟩ := hs a ha
    exact ⟨ρ', e1, rfl, fun _ => e2⟩
  rw [h, List.filter_eq_self.mpr fun _ _ => rfl]
/-! ### numbers and tuples of numbers -/
def tI (xs : List Int) : D := .tup (xs.map .int)
def tT (xs : List (List Int)) : D := .tup (xs.map tI)
@[simp] theorem intsOf_map (xs : List Int) : intsOf (xs.map D.int) = some xs := by
  induction xs with
  | nil => rfl
  | cons x xs ih => show (intsOf (xs.map D.int)).map (x :: ·) = _; rw [ih]; rfl
@[simp] theorem blsOf_map (xs : List Bool) : blsOf (xs.map D.bl) = some xs := by
  induction xs with
  | nil => rfl
  | cons x xs ih => show (blsOf (xs.map D.bl)).map (x :: ·) = _; rw [ih]; rfl
theorem shA_of {xs : List D} {n : Nat} (h : ∀ x ∈ xs, x.sh n = true) : D.shA xs n = true := by
  induction xs with
  | nil => rfl
  | cons x xs ih =>
    show (D.sh x n && D.shA xs n) = true
    rw [h x List.mem_cons_self, ih fun y hy => h y (List.mem_cons_of_mem _ hy)]
    rfl
@[simp] theorem sh_ints (xs : List Int) (n : Nat) : D.shA (xs.map D.int) n = true := shA_of fun x hx => by
  obtain ⟨i, _, rfl⟩ := List.mem_map.mp hx
  rfl
@[simp] theorem sh_tI (xs : List Int) (n : Nat) : (tI xs).sh (n + 1) = true := sh_ints xs n
@[simp] theorem sh_tIs (xs : List (List Int)) (n : Nat) : D.shA (xs.map tI) (n + 1) = true := shA_of fun x hx => by
  obtain ⟨i, _, rfl⟩ := List.mem_map.mp hx
  exact sh_tI i n
@[simp] theorem sh_tT (xs : List (List Int)) (n : Nat) : (tT xs).sh (n + 2) = true := sh_tIs xs n
theorem pd_ints (xs : List Int) : D.pdA (xs.map D.int) = xs.map PySem.W.Datum.toD := by
  rw [pdA_map, List.map_map]; rfl
theorem pd_tI (xs : List Int) : (tI xs).pd = PySem.W.Datum.toD (PySem.W.Tup.mk xs) := by
  show PyData.tuple (D.pdA (xs.map D.int)) = _
  rw [pd_ints]; rfl
theorem pd_tIs (xs : List (List Int)) : D.pdA (xs.map tI) = (xs.map PySem.W.Tup.mk).map PySem.W.Datum.toD := by
  rw [pdA_map, List.map_map, List.map_map]
  exact List.map_congr_left fun a _ => pd_tI a
theorem pd_tT (xs : List (List Int)) : (tT xs).pd = PySem.W.Datum.toD (PySem.W.Tup.mk (xs.map PySem.W.Tup.mk)) := by
  show PyData.tuple (D.pdA (xs.map tI)) = _
  rw [pd_tIs]; rfl
@[simp] theorem eqb_int (a b : Int) : (D.int a).eqb (.int b) = decide (a = b) := PySem.W.Datum.eqv a b
@[simp] theorem eqb_bl (a b : Bool) : (D.bl a).eqb (.bl b) = decide (a = b) := PySem.W.Datum.eqv a b
@[simp] theorem eqb_tI (a b : List Int) : (tI a).eqb (tI b) = decide (a = b) := by
  unfold D.eqb
  rw [pd_tI, pd_tI, PySem.W.Datum.eqv]
  simp
theorem map_mk_inj {α : Type} (a b : List (List Int)) : a.map PySem.W.Tup.mk = b.map PySem.W.Tup.mk ↔ a = b := by
  constructor
  · intro h
    have := congrArg (List.map PySem.W.Tup.items) h
    simpa [List.map_map, Function.comp_def] using this
  · rintro rfl; rfl
@[simp] theorem eqb_tT (a b : List (List Int)) : (tT a).eqb (tT b) = decide (a = b) := by
  unfold D.eqb
  rw [pd_tT, pd_tT, PySem.W.Datum.eqv]
  simp [map_mk_inj (α := Int)]
@[simp] theorem eqb_lI (a b : List Int) : (D.lst (a.map .int)).eqb (.lst (b.map .int)) = decide (a = b) := by
  show PyData.eqv (.list (D.pdA (a.map D.int))) (.list (D.pdA (b.map D.int))) = _
  rw [pd_ints, pd_ints]
  exact PySem.W.Datum.eqv a b
theorem any_tI (xs : List (List Int)) (a : List Int) : ((xs.map tI).any fun x => x.eqb (tI a)) = decide (a ∈ xs) := by
  rw [List.any_map]
  rw [Bool.eq_iff_iff, List.any_eq_true, decide_eq_true_eq]
  constructor
  · rintro ⟨x, hx, h⟩
    have h : (tI x).eqb (tI a) = true := h
    rw [eqb_tI, decide_eq_true_eq] at h
    subst h
    exact hx
  · intro h
    exact ⟨a, h, by show (tI a).eqb (tI a) = true; rw [eqb_tI]; simp⟩
theorem any_int (xs : List Int) (a : Int) : ((xs.map D.int).any fun x => x.eqb (.int a)) = decide (a ∈ xs) := by
  rw [List.any_map]
  rw [Bool.eq_iff_iff, List.any_eq_true, decide_eq_true_eq]
  constructor
  · rintro ⟨x, hx, h⟩
    have h : (D.int x).eqb (.int a) = true := h
    rw [eqb_int, decide_eq_true_eq] at h
    subst h
    exact hx
  · intro h
    exact ⟨a, h, by show (D.int a).eqb (.int a) = true; rw [eqb_int]; simp⟩
/-! ### sorted -/
theorem le_int (a b : Int) : PySem.W.dataLe false D.pd (.int a) (.int b) = decide (a ≤ b) := by
  show (!PyProof.Rows.lexLt PyProof.Rows.itemOrd [.inl b] [.inl a]) = _
  show (!(decide (b < a) || (!decide (a < b) && false))) = _
  rw [Bool.and_false, Bool.or_false]
  by_cases h : b < a
  · have h2 : ¬ a ≤ b := by omega
    simp [h, h2]
  · have h2 : a ≤ b := by omega
    simp [h, h2]
theorem lt_toks : ∀ a b : List Int, PyProof.Rows.lexLt PyProof.Rows.itemOrd (PySem.W.keyToksAll (a.map PyData.int)) (PySem.W.keyToksAll (b.map PyData.int)) = HT.lexLt a b
  | [], [] => by
    show PyProof.Rows.lexLt PyProof.Rows.itemOrd [.inl 0] [.inl 0] = _
    rw [lex_self]; rfl
  | [], y :: ys => by
    show PyProof.Rows.lexLt PyProof.Rows.itemOrd [.inl 0] (.inl 1 :: _) = _
    rw [lex_diff (by decide)]; rfl
  | x :: xs, [] => by
    show PyProof.Rows.lexLt PyProof.Rows.itemOrd (.inl 1 :: _) [.inl 0] = _
    rw [lex_diff (by decide)]; rfl
  | x :: xs, y :: ys => by
    show PyProof.Rows.lexLt PyProof.Rows.itemOrd (.inl 1 :: .inl x :: PySem.W.keyToksAll (xs.map PyData.int)) (.inl 1 :: .inl y :: PySem.W.keyToksAll (ys.map PyData.int)) = _
    rw [lex_self, HT.lexLt_cons]
    by_cases h : x = y
    · subst h
      rw [lex_self, if_pos rfl]
      exact lt_toks xs ys
    · rw [lex_diff (fun z => h (Sum.inl.inj z)), if_neg h]
      rfl
theorem le_tI (a b : List Int) : PySem.W.dataLe false D.pd (tI a) (tI b) = !HT.lexLt b a := by
  show (!PyProof.Rows.lexLt PyProof.Rows.itemOrd (PySem.W.keyToksAll (D.pdA (b.map D.int))) (PySem.W.keyToksAll (D.pdA (a.map D.int)))) = _
  rw [pd_ints, pd_ints]
  exact congrArg (!·) (lt_toks b a)
theorem lexLt_tri : ∀ a b : List Int, HT.lexLt a b = false → HT.lexLt b a = false → a = b
  | [], [], _, _ => rfl
  | [], _ :: _, h, _ => by cases h
  | _ :: _, [], _, h => by cases h
  | x :: xs, y :: ys, h1, h2 => by
    rw [HT.lexLt_cons] at h1 h2
    by_cases h : x = y
    · subst h
      rw [if_pos rfl] at h1 h2
      rw [lexLt_tri xs ys h1 h2]
    · rw [if_neg h] at h1
      rw [if_neg (fun z => h z.symm)] at h2
      have h1 := of_decide_eq_false h1
      have h2 := of_decide_eq_false h2
      omega
theorem sortD_int (xs : List Int) : ∃ ys : List Int, sortD (xs.map D.int) = ys.map D.int ∧ ys.Perm xs ∧ ys.Pairwise (· ≤ ·) := by
  refine ⟨xs.mergeSort (fun a b => decide (a ≤ b)), ?_, List.mergeSort_perm .., ?_⟩
  · unfold sortD
    exact (List.map_mergeSort (f := D.int) (r := fun a b => decide (a ≤ b)) (s := PySem.W.dataLe false D.pd) (l := xs) fun a _ b _ => (le_int a b).symm).symm
  · have := List.pairwise_mergeSort (le := fun a b : Int => decide (a ≤ b)) (fun a b c h1 h2 => by simp at *; omega) (fun a b => by simp; omega) xs
    exact this.imp fun h => of_decide_eq_true h
theorem lexLe_trans (a b c : List Int) (h1 : (!HT.lexLt b a) = true) (h2 : (!HT.lexLt c b) = true) : (!HT.lexLt c a) = true := by
  rw [← le_tI] at *
  exact (PySem.W.sortLe_total _ _ _).trans _ _ _ h1 h2
theorem lexLe_total (a b : List Int) : ((!HT.lexLt b a) || (!HT.lexLt a b)) = true := by
  rw [← le_tI, ← le_tI]
  exact Bool.or_eq_true_iff.mpr ((PySem.W.sortLe_total _ _ _).total _ _)
theorem sortD_tI (xs : List (List Int)) : ∃ ys : List (List Int), sortD (xs.map tI) = ys.map tI ∧ ys.Perm xs ∧ ys.Pairwise (fun a b => HT.lexLt b a = false) := by
  refine ⟨xs.mergeSort (fun a b => !HT.lexLt b a), ?_, List.mergeSort_perm .., ?_⟩
  · unfold sortD
    exact (List.map_mergeSort (f := tI) (r := fun a b => !HT.lexLt b a) (s := PySem.W.dataLe false D.pd) (l := xs) fun a _ b _ => (le_tI a b).symm).symm
  · have := List.pairwise_mergeSort (le := fun a b : List Int => !HT.lexLt b a) lexLe_trans lexLe_total xs
    exact this.imp fun h => by simpa using h
theorem sortOk_int (xs : List Int) : sortOk (xs.map D.int) = true := by
  have h1 : alikeB (D.pdA (xs.map D.int)) = true := by
    rw [pd_ints]
    refine List.all_eq_true.mpr fun a ha => List.all_eq_true.mpr fun b hb => ?_
    obtain ⟨a, _, rfl⟩ := List.mem_map.mp ha
    obtain ⟨b, _, rfl⟩ := List.mem_map.mp hb
    rfl
  have h2 : (xs.map D.int).all noTup = true := by
    rw [List.all_map, List.all_eq_true]
    intro a _
    rfl
  unfold sortOk
  rw [h1, h2, sh_ints]
  simp
theorem alikeAll_ints : ∀ a b : List Int, PySem.W.alikeAll (a.map PyData.int) (b.map PyData.int) = true
  | [], _ => by cases ‹List Int› <;> rfl
  | _ :: _, [] => rfl
  | x :: xs, y :: ys => by
    show (PySem.W.alike (.int x) (.int y) && PySem.W.alikeAll (xs.map PyData.int) (ys.map PyData.int)) = true
    rw [alikeAll_ints xs ys]
    rfl
theorem sortOk_tI (xs : List (List Int)) (h : ∀ x ∈ xs, x ≠ []) : sortOk (xs.map tI) = true := by
  have h1 : alikeB (D.pdA (xs.map tI)) = true := by
    rw [pd_tIs]
    refine List.all_eq_true.mpr fun a ha => List.all_eq_true.mpr fun b hb => ?_
    obtain ⟨a', ha', rfl⟩ := List.mem_map.mp ha
    obtain ⟨b', hb', rfl⟩ := List.mem_map.mp hb
    exact alikeAll_ints a'.items b'.items
  have h2 : (xs.map tI).all neTup = true := by
    rw [List.all_map, List.all_eq_true]
    intro a ha
    cases a with
    | nil => exact absurd rfl (h [] ha)
    | cons _ _ => rfl
  unfold sortOk
  rw [h1, h2, sh_tIs]
  rfl
end LC

end
section
set_option maxHeartbeats 200000
/-! BD: the defs that the laws share, as terms (printed by pr.py). -/
namespace LC
open PySem
/-! the defs of the text -/
def b_is_between : LB :=
  (.cons (.ret (.bop true (.cons (.isi (.cons (.var 0) (.cons (.ty .int) .nil))) (.cons (.nt (.isi (.cons (.var 0) (.cons (.ty .bool) .nil)))) (.cons (.chn .LtE .LtE (.var 1) (.var 0) (.var 2)) .nil)))))
    .nil)
def b_is_lot : LB :=
  (.cons (.ifs (.bop false (.cons (.nt (.isi (.cons (.var 1) (.cons (.ty .tuple) .nil)))) (.cons (.cmp .Eq (.var 1) (.tup .nil)) (.cons (.nt (.blt .all (.cons (.lc [2] (.of (.var 1)) (.nm 2) .none (.call "is_between" (.cons (.var 2) (.cons (.cst (.int 0)) (.cons (.bin .Sub (.var 0) (.cst (.int 1))) .nil))))) .nil))) .nil)))) (.cons (.ret (.cst (.bl false)))
    .nil) .nil)
    (.cons (.ret (.blt .all (.cons (.lc [3] (.rng (.cons (.bin .Sub (.blt .len (.cons (.var 1) .nil)) (.cst (.int 1))) .nil)) (.nm 3) .none (.cmp .Lt (.idx (.var 1) (.var 3)) (.idx (.var 1) (.bin .Add (.var 3) (.cst (.int 1)))))) .nil)))
    .nil))
def b_is_family : LB :=
  (.cons (.ifs (.bop false (.cons (.nt (.isi (.cons (.var 0) (.cons (.ty .tuple) .nil)))) (.cons (.cmp .NotEq (.blt .len (.cons (.var 0) .nil)) (.cst (.int 2))) (.cons (.nt (.call "is_between" (.cons (.idx (.var 0) (.cst (.int 0))) (.cons (.cst (.int 1)) (.cons (.cst (.int 7)) .nil))))) .nil)))) (.cons (.ret (.cst (.bl false)))
    .nil) .nil)
    (.cons (.asg (.tp [1, 2]) (.var 0))
    (.cons (.ifs (.bop false (.cons (.nt (.isi (.cons (.var 2) (.cons (.ty .tuple) .nil)))) (.cons (.nt (.chn .LtE .LtE (.cst (.int 1)) (.blt .len (.cons (.var 2) .nil)) (.cst (.int 8)))) (.cons (.nt (.blt .all (.cons (.lc [3] (.of (.var 2)) (.nm 3) .none (.call "is_lot" (.cons (.var 1) (.cons (.var 3) .nil)))) .nil))) .nil)))) (.cons (.ret (.cst (.bl false)))
    .nil) .nil)
    (.cons (.ret (.blt .all (.cons (.lc [4] (.rng (.cons (.bin .Sub (.blt .len (.cons (.var 2) .nil)) (.cst (.int 1))) .nil)) (.nm 4) .none (.cmp .Lt (.idx (.var 2) (.var 4)) (.idx (.var 2) (.bin .Add (.var 4) (.cst (.int 1)))))) .nil)))
    .nil))))
def b_check_family : LB :=
  (.cons (.ifs (.nt (.call "is_family" (.cons (.var 0) .nil))) (.cons (.rai "InvalidFamily")
    .nil) .nil)
    .nil)
def b_are_colours : LB :=
  (.cons (.ifs (.bop false (.cons (.nt (.isi (.cons (.var 1) (.cons (.ty .tuple) .nil)))) (.cons (.cmp .NotEq (.blt .len (.cons (.var 1) .nil)) (.idx (.var 0) (.cst (.int 0)))) .nil))) (.cons (.ret (.cst (.bl false)))
    .nil) .nil)
    (.cons (.ret (.blt .all (.cons (.lc [2] (.of (.var 1)) (.nm 2) .none (.bop true (.cons (.isi (.cons (.var 2) (.cons (.ty .int) .nil))) (.cons (.nt (.isi (.cons (.var 2) (.cons (.ty .bool) .nil)))) (.cons (.cmp .In (.var 2) (.tup (.cons (.neg (.cst (.int 1))) (.cons (.cst (.int 1)) .nil)))) .nil))))) .nil)))
    .nil))
def b_is_colours : LB :=
  (.cons (.ex (.call "check_family" (.cons (.var 0) .nil)))
    (.cons (.ret (.call "are_colours" (.cons (.var 0) (.cons (.var 1) .nil))))
    .nil))
def b_check_both : LB :=
  (.cons (.ex (.call "check_family" (.cons (.var 0) .nil)))
    (.cons (.ifs (.nt (.call "are_colours" (.cons (.var 0) (.cons (.var 1) .nil)))) (.cons (.rai "InvalidColours")
    .nil) .nil)
    .nil))
def b_found_sums : LB :=
  (.cons (.ret (.blt .tuple (.cons (.lc [3] (.of (.idx (.var 0) (.cst (.int 1)))) (.nm 3) .none (.blt .sum (.cons (.lc [2] (.of (.var 3)) (.nm 2) .none (.idx (.var 1) (.var 2))) .nil))) .nil)))
    .nil)
def b_found_uneven : LB :=
  (.cons (.ret (.blt .max (.cons (.lc [2] (.of (.call "found_sums" (.cons (.var 0) (.cons (.var 1) .nil)))) (.nm 2) .none (.blt .abs (.cons (.var 2) .nil))) .nil)))
    .nil)
def b_sums : LB :=
  (.cons (.ex (.call "check_both" (.cons (.var 0) (.cons (.var 1) .nil))))
    (.cons (.ret (.call "found_sums" (.cons (.var 0) (.cons (.var 1) .nil))))
    .nil))
def b_uneven : LB :=
  (.cons (.ex (.call "check_both" (.cons (.var 0) (.cons (.var 1) .nil))))
    (.cons (.ret (.call "found_uneven" (.cons (.var 0) (.cons (.var 1) .nil))))
    .nil))
def b_all_colours : LB :=
  (.cons (.set 1 (.lst (.cons (.tup .nil) .nil)))
    (.cons (.for_ (.rng (.cons (.var 0) .nil)) (.nm 2) (.cons (.setLc 1 (.lc2 [3, 4] [4] (.of (.var 1)) (.nm 3) .none (.of (.tup (.cons (.neg (.cst (.int 1))) (.cons (.cst (.int 1)) .nil)))) (.nm 4) .none (.bin .Add (.var 3) (.tup (.cons (.var 4) .nil)))))
    .nil))
    (.cons (.ret (.var 1))
    .nil)))
def b_found_least : LB :=
  (.cons (.ret (.blt .min (.cons (.lc [1] (.of (.call "all_colours" (.cons (.idx (.var 0) (.cst (.int 0))) .nil))) (.nm 1) .none (.call "found_uneven" (.cons (.var 0) (.cons (.var 1) .nil)))) .nil)))
    .nil)
def b_least_uneven : LB :=
  (.cons (.ex (.call "check_family" (.cons (.var 0) .nil)))
    (.cons (.ret (.call "found_least" (.cons (.var 0) .nil)))
    .nil))
def b_all_best : LB :=
  (.cons (.ex (.call "check_family" (.cons (.var 0) .nil)))
    (.cons (.set 1 (.call "found_least" (.cons (.var 0) .nil)))
    (.cons (.ret (.blt .tuple (.cons (.lc [2] (.of (.call "all_colours" (.cons (.idx (.var 0) (.cst (.int 0))) .nil))) (.nm 2) (.some (.cmp .Eq (.call "found_uneven" (.cons (.var 0) (.cons (.var 2) .nil))) (.var 1))) (.var 2)) .nil)))
    .nil)))
def b__law_town : LB :=
  (.cons (.ret (.addC (.lst (.cons (.cst (.int 0)) .nil)) (.blt .list (.cons (.var 0) .nil))))
    .nil)
def b__law_draw : LB :=
  (.cons (.stI (.var 1) (.cst (.int 0)) (.bin .Add (.idx (.var 1) (.cst (.int 0))) (.cst (.int 1))))
    (.cons (.ifs (.cmp .Eq (.var 0) (.lst .nil)) (.cons (.ret (.bin .Mod (.bin .FloorDiv (.bin .Mult (.bin .Mult (.idx (.var 1) (.cst (.int 0))) (.idx (.var 1) (.cst (.int 0)))) (.cst (.int 7))) (.cst (.int 3))) (.var 2)))
    .nil) .nil)
    (.cons (.set 3 (.bin .Mod (.idx (.var 1) (.cst (.int 0))) (.blt .len (.cons (.var 0) .nil))))
    (.cons (.set 4 (.idx (.var 1) (.bin .Add (.cst (.int 1)) (.var 3))))
    (.cons (.ifs (.bop true (.cons (.cmp .GtE (.idx (.var 0) (.var 3)) (.bin .Pow (.cst (.int 10)) (.cst (.int 18)))) (.cons (.cmp .Gt (.var 4) (.cst (.int 0))) .nil))) (.cons (.stI (.var 1) (.bin .Add (.cst (.int 1)) (.var 3)) (.bin .FloorDiv (.var 4) (.var 2)))
    (.cons (.ret (.bin .Mod (.var 4) (.var 2)))
    .nil)) .nil)
    (.cons (.set 5 (.bin .Mod (.bin .Add (.idx (.var 0) (.var 3)) (.bin .Mult (.cst (.int 104729)) (.idx (.var 1) (.cst (.int 0))))) (.cst (.int 4294967291))))
    (.cons (.set 5 (.bin .Mod (.bin .Pow (.var 5) (.cst (.int 5))) (.cst (.int 4294967279))))
    (.cons (.ret (.bin .Mod (.bin .FloorDiv (.bin .Mod (.bin .Add (.bin .Mult (.bin .FloorDiv (.var 5) (.cst (.int 64))) (.cst (.int 69621))) (.var 5)) (.cst (.int 4294967231))) (.cst (.int 8))) (.var 2)))
    .nil))))))))
def b__law_family : LB :=
  (.cons (.par 3 4 (.cons (.bin .Add (.cst (.int 1)) (.call "_law_draw" (.cons (.var 0) (.cons (.var 1) (.cons (.var 2) .nil))))) (.cons (.lst .nil) .nil)))
    (.cons (.asg (.tp [5, 6]) (.tup (.cons (.bin .Add (.cst (.int 1)) (.call "_law_draw" (.cons (.var 0) (.cons (.var 1) (.cons (.cst (.int 3)) .nil))))) (.cons (.bop true (.cons (.cmp .Gt (.var 3) (.cst (.int 2))) (.cons (.cmp .Eq (.call "_law_draw" (.cons (.var 0) (.cons (.var 1) (.cons (.cst (.int 2)) .nil)))) (.cst (.int 0))) .nil))) .nil))))
    (.cons (.for_ (.rng (.cons (.bin .Add (.cst (.int 1)) (.call "_law_draw" (.cons (.var 0) (.cons (.var 1) (.cons (.cst (.int 8)) .nil))))) .nil)) (.nm 7) (.cons (.ifs (.var 6) (.cons (.set 8 (.call "_law_draw" (.cons (.var 0) (.cons (.var 1) (.cons (.var 3) .nil)))))
    (.cons (.set 9 (.blt .sorted (.cons (.lst (.cons (.var 8) (.cons (.bin .Mod (.bin .Add (.bin .Add (.var 8) (.cst (.int 1))) (.call "_law_draw" (.cons (.var 0) (.cons (.var 1) (.cons (.cst (.int 2)) .nil))))) (.var 3)) .nil))) .nil)))
    .nil)) (.cons (.setLc 9 (.lc [8] (.rng (.cons (.var 3) .nil)) (.nm 8) (.some (.cmp .Lt (.call "_law_draw" (.cons (.var 0) (.cons (.var 1) (.cons (.cst (.int 4)) .nil)))) (.var 5))) (.var 8)))
    .nil))
    (.cons (.set 9 (.blt .tuple (.cons (.ite (.cmp .NotEq (.var 9) (.lst .nil)) (.var 9) (.lst (.cons (.call "_law_draw" (.cons (.var 0) (.cons (.var 1) (.cons (.var 3) .nil)))) .nil))) .nil)))
    (.cons (.set 4 (.bin .Add (.var 4) (.ite (.cmp .NotIn (.var 9) (.var 4)) (.lst (.cons (.var 9) .nil)) (.lst .nil))))
    .nil))))
    (.cons (.ret (.tup (.cons (.var 3) (.cons (.blt .tuple (.cons (.blt .sorted (.cons (.var 4) .nil)) .nil)) .nil))))
    .nil))))
def b__law_all : LB :=
  (.cons (.set 2 (.lst (.cons (.tup .nil) .nil)))
    (.cons (.for_ (.rng (.cons (.var 0) .nil)) (.nm 3) (.cons (.set 4 (.lst .nil))
    (.cons (.for_ (.of (.var 2)) (.nm 5) (.cons (.set 4 (.bin .Add (.var 4) (.lc [6] (.of (.var 1)) (.nm 6) .none (.bin .Add (.var 5) (.tup (.cons (.var 6) .nil))))))
    .nil))
    (.cons (.set 2 (.var 4))
    .nil))))
    (.cons (.ret (.var 2))
    .nil)))
def b__law_sums : LB :=
  (.cons (.ret (.blt .tuple (.cons (.lc [3] (.of (.idx (.var 0) (.cst (.int 1)))) (.nm 3) .none (.blt .sum (.cons (.lc [2] (.of (.var 3)) (.nm 2) .none (.idx (.var 1) (.var 2))) .nil))) .nil)))
    .nil)
def b__law_uneven : LB :=
  (.cons (.ret (.blt .max (.cons (.lc [2] (.of (.call "_law_sums" (.cons (.var 0) (.cons (.var 1) .nil)))) (.nm 2) .none (.blt .abs (.cons (.var 2) .nil))) .nil)))
    .nil)
def b__law_hues : LB :=
  (.cons (.ret (.blt .tuple (.cons (.lc [3] (.rng (.cons (.var 2) .nil)) (.nm 3) .none (.bin .Sub (.bin .Mult (.cst (.int 2)) (.call "_law_draw" (.cons (.var 0) (.cons (.var 1) (.cons (.cst (.int 2)) .nil))))) (.cst (.int 1)))) .nil)))
    .nil)
end LC

end
section
set_option maxHeartbeats 2000000
/-! SL: one step of the evaluator each, with the store at hand. -/
namespace LC
open PySem PySem.Spec PyProof.Rows L2
section
variable {cf : Str → List D → M D} {ρ : Env} {S : Store}
def andK : D → M D → M D
  | .bl true, m => m
  | .bl false, _ => M.pure (.bl false)
  | _, _ => M.bad
def orK : D → M D → M D
  | .bl false, m => m
  | .bl true, _ => M.pure (.bl true)
  | _, _ => M.bad
def iteK {α : Type} : D → M α → M α → M α
  | .bl true, m, _ => m
  | .bl false, _, m => m
  | _, _, _ => M.bad
def seqB (cf : Str → List D → M D) (b : LB) : Fl → M Fl
  | .nx ρ => exB cf b ρ
  | .rt d => M.pure (.rt d)
def asgK (tg : LT) (d : D) (ρ : Env) : M Fl := match asgT tg d ρ with
  | some ρ' => M.pure (.nx ρ')
  | none => M.bad
def slI : D → M (Option Int)
  | .int i => M.pure (some i)
  | _ => M.bad
@[simp] theorem andK_t (m : M D) (S : Store) : andK (.bl true) m S = m S := (rfl)
@[simp] theorem andK_f (m : M D) (S : Store) : andK (.bl false) m S = .ok (.bl false) S := (rfl)
@[simp] theorem orK_f (m : M D) (S : Store) : orK (.bl false) m S = m S := (rfl)
@[simp] theorem orK_t (m : M D) (S : Store) : orK (.bl true) m S = .ok (.bl true) S := (rfl)
@[simp] theorem iteK_t {α : Type} (m n : M α) (S : Store) : iteK (.bl true) m n S = m S := (rfl)
@[simp] theorem iteK_f {α : Type} (m n : M α) (S : Store) : iteK (.bl false) m n S = n S := (rfl)
@[simp] theorem seqK_n (b : LB) (ρ : Env) (S : Store) : seqB cf b (.nx ρ) S = exB cf b ρ S := (rfl)
@[simp] theorem seqK_r (b : LB) (d : D) (S : Store) : seqB cf b (.rt d) S = .ok (.rt d) S := (rfl)
@[simp] theorem slI_i (i : Int) (S : Store) : slI (.int i) S = .ok (some i) S := (rfl)
@[simp] theorem endF_n (S : Store) (ρ : Env) : endF (.nx ρ) S = .ok .non S := (rfl)
@[simp] theorem endF_r (S : Store) (d : D) : endF (.rt d) S = .ok d S := (rfl)
@[simp] theorem asgK_nm (i : Nat) (d : D) : asgK (.nm i) d ρ S = .ok (.nx (ρ.set i (some d))) S := (rfl)
@[simp] theorem asgK_t2 (i j : Nat) (a b : D) : asgK (.tp [i, j]) (.tup [a, b]) ρ S = .ok (.nx ((ρ.set i (some a)).set j (some b))) S := (rfl)
@[simp] theorem asgK_t3 (i j k : Nat) (a b c : D) : asgK (.tp [i, j, k]) (.tup [a, b, c]) ρ S = .ok (.nx (((ρ.set i (some a)).set j (some b)).set k (some c))) S := (rfl)
theorem getE_0 (a : Option D) (r : Env) : getE (a :: r) 0 = a := by cases a <;> rfl
theorem getE_s (a : Option D) (r : Env) (n : Nat) : getE (a :: r) (n + 1) = getE r n := (rfl)
theorem e_var (i : Nat) : evE cf (.var i) ρ S = M.opt (getE ρ i) S := (rfl)
theorem e_cst (d : D) : evE cf (.cst d) ρ S = .ok d S := (rfl)
theorem e_ty (b : BT) : evE cf (.ty b) ρ S = .ok (.ty b.nm) S := (rfl)
theorem e_gfn (x : Str) : evE cf (.gfn x) ρ S = .ok (.fn x) S := (rfl)
theorem e_bin (op : Operator) (a b : LE) : evE cf (.bin op a b) ρ S = (evE cf a ρ S).bind fun x S1 => (evE cf b ρ S1).bind fun y S2 => M.opt (binD op (vw S2 x) (vw S2 y)) S2 := (rfl)
theorem e_cmp (op : CmpOp) (a b : LE) : evE cf (.cmp op a b) ρ S = (evE cf a ρ S).bind fun x S1 => (evE cf b ρ S1).bind fun y S2 => M.opt (cmpB op (vw S2 x) (vw S2 y)) S2 := (rfl)
theorem e_chn (op op2 : CmpOp) (a b c : LE) : evE cf (.chn op op2 a b c) ρ S = (evE cf a ρ S).bind fun x S1 => (evE cf b ρ S1).bind fun y S2 => (M.opt (cmpB op (vw S2 x) (vw S2 y)) S2).bind fun t S3 => andK t (fun S3 => (evE cf c ρ S3).bind fun z S4 => M.opt (cmpB op2 (vw S4 y) (vw S4 z)) S4) S3 := by
  show ((evE cf a ρ S).bind fun x => M.bind (evE cf b ρ) fun y => M.bind (fun S => M.opt (cmpB op (vw S x) (vw S y)) S) fun t => match t with
    | .bl true => M.bind (evE cf c ρ) fun z => fun S => M.opt (cmpB op2 (vw S y) (vw S z)) S
    | .bl false => M.pure (.bl false)
    | _ => M.bad) = _
  congr 1
  funext x S1
  show ((evE cf b ρ S1).bind _) = _
  congr 1
  funext y S2
  show ((M.opt (cmpB op (vw S2 x) (vw S2 y)) S2).bind _) = _
  congr 1
  funext t S3
  cases t with
  | bl t => cases t <;> rfl
  | _ => rfl
theorem e_neg (a : LE) : evE cf (.neg a) ρ S = (evE cf a ρ S).bind fun x S1 => M.opt (negD x) S1 := (rfl)
theorem e_nt (a : LE) : evE cf (.nt a) ρ S = (evE cf a ρ S).bind fun x S1 => M.opt (notD x) S1 := (rfl)
theorem e_one (t : Bool) (a : LE) : evE cf (.bop t (.cons a .nil)) ρ S = evE cf a ρ S := (rfl)
theorem e_and (a b : LE) (es : LAs) : evE cf (.bop true (.cons a (.cons b es))) ρ S = (evE cf a ρ S).bind fun x S1 => andK x (fun S1 => evE cf (.bop true (.cons b es)) ρ S1) S1 := by
  show ((evE cf a ρ S).bind fun x => match x with
    | .bl true => evE cf (.bop true (.cons b es)) ρ
    | .bl false => M.pure (.bl false)
    | _ => M.bad) = _
  congr 1
  funext x S1
  cases x with
  | bl t => cases t <;> rfl
  | _ => rfl
theorem e_or (a b : LE) (es : LAs) : evE cf (.bop false (.cons a (.cons b es))) ρ S = (evE cf a ρ S).bind fun x S1 => orK x (fun S1 => evE cf (.bop false (.cons b es)) ρ S1) S1 := by
  show ((evE cf a ρ S).bind fun x => match x with
    | .bl false => evE cf (.bop false (.cons b es)) ρ
    | .bl true => M.pure (.bl true)
    | _ => M.bad) = _
  congr 1
  funext x S1
  cases x with
  | bl t => cases t <;> rfl
  | _ => rfl
theorem e_ite (c a b : LE) : evE cf (.ite c a b) ρ S = (evE cf c ρ S).bind fun x S1 => iteK x (fun S1 => evE cf a ρ S1) (fun S1 => evE cf b ρ S1) S1 := by
  show ((evE cf c ρ S).bind fun x => match x with
    | .bl true => evE cf a ρ
    | .bl false => evE cf b ρ
    | _ => M.bad) = _
  congr 1
  funext x S1
  cases x with
  | bl t => cases t <;> rfl
  | _ => rfl
theorem e_tup (es : LAs) : evE cf (.tup es) ρ S = (evA cf es ρ S).bind fun ds S1 => .ok (.tup ds) S1 := (rfl)
theorem e_lst (es : LAs) : evE cf (.lst es) ρ S = (evA cf es ρ S).bind fun ds S1 => .ok (.lst ds) S1 := (rfl)
theorem e_lstC (es : LAs) : evE cf (.lstC es) ρ S = (evA cf es ρ S).bind fun ds S1 => .ok (.cell S1.length) (S1 ++ [.lst ds]) := (rfl)
theorem e_addC (a b : LE) : evE cf (.addC a b) ρ S = (evE cf a ρ S).bind fun x S1 => (evE cf b ρ S1).bind fun y S2 => match vw S2 x, vw S2 y with
  | .lst xs, .lst ys => if xs.length + ys.length ≤ line then mkCell (xs ++ ys) S2 else .bad
  | _, _ => .bad := rfl
theorem e_idx (a i : LE) : evE cf (.idx a i) ρ S = (evE cf a ρ S).bind fun x S1 => (evE cf i ρ S1).bind fun y S2 => M.opt (idxD (vw S2 x) (vw S2 y)) S2 := (rfl)
theorem e_slc (a : LE) (lo hi : LO) : evE cf (.slc a lo hi) ρ S = (evE cf a ρ S).bind fun x S1 => (optI (evO cf lo) ρ S1).bind fun l S2 => (optI (evO cf hi) ρ S2).bind fun h S3 => M.opt (sliceD l h (vw S3 x)) S3 := (rfl)
theorem o_none : optI (evO cf .none) ρ S = .ok none S := (rfl)
theorem o_some (e : LE) : optI (evO cf (.some e)) ρ S = (evE cf e ρ S).bind fun d S1 => slI d S1 := by
  show ((evE cf e ρ S).bind fun d => match d with
    | .int i => M.pure (some i)
    | _ => M.bad) = _
  congr 1


theorem e_call0 (f : Str) : evE cf (.call f .nil) ρ S = (cf f [] S).nox := (rfl)
theorem e_call (f : Str) (a : LE) (es : LAs) : evE cf (.call f (.cons a es)) ρ S = (evA cf (.cons a es) ρ S).bind fun ds S1 => cf f ds S1 := (rfl)
theorem e_blt (b : BF) (es : LAs) : evE cf (.blt b es) ρ S = (evA cf es ρ S).bind fun ds S1 => M.opt (fB b S1 ds) S1 := (rfl)
theorem e_isi (es : LAs) : evE cf (.isi es) ρ S = (evA cf es ρ S).bind fun ds S1 => M.opt (fIsi S1 ds) S1 := (rfl)
theorem e_lc (vs : List Nat) (s : LI) (tg : LT) (c : LO) (e : LE) : evE cf (.lc vs s tg c e) ρ S = lcM vs (evI cf s) tg (evO cf c) (evE cf e) ρ S := (rfl)
theorem a_nil : evA cf .nil ρ S = .ok [] S := (rfl)
theorem a_cons (e : LE) (es : LAs) : evA cf (.cons e es) ρ S = (evE cf e ρ S).bind fun x S1 => (evA cf es ρ S1).bind fun xs S2 => .ok (x :: xs) S2 := (rfl)
theorem i_of (e : LE) : evI cf (.of e) ρ S = (evE cf e ρ S).bind fun x S1 => M.opt (srcOf S1 x) S1 := (rfl)
theorem i_rng (es : LAs) : evI cf (.rng es) ρ S = (evA cf es ρ S).bind fun ds S1 => M.opt (rngD ds) S1 := (rfl)
theorem c_none : condM (evO cf .none) ρ S = .ok true S := (rfl)
theorem c_some (e : LE) : condM (evO cf (.some e)) ρ S = (evE cf e ρ S).bind fun x S1 => toBl x S1 := (rfl)
@[simp] theorem toBl_b (b : Bool) (S : Store) : toBl (.bl b) S = .ok b S := (rfl)
theorem s_set (i : Nat) (e : LE) : exS cf (.set i e) ρ S = (evE cf e ρ S).bind fun d S1 => .ok (.nx (ρ.set i (some d))) S1 := (rfl)
theorem s_setLc (i : Nat) (e : LE) : exS cf (.setLc i e) ρ S = (evE cf e ρ S).bind fun d S1 => .ok (.nx (ρ.set i (some d))) S1 := (rfl)
theorem s_asg (tg : LT) (e : LE) : exS cf (.asg tg e) ρ S = (evE cf e ρ S).bind fun d S1 => asgK tg d ρ S1 := by
  show ((evE cf e ρ S).bind fun d => match asgT tg d ρ with
    | some ρ' => M.pure (Fl.nx ρ')
    | none => M.bad) = _
  rfl
theorem s_par (i j : Nat) (es : LAs) : exS cf (.par i j es) ρ S = (evA cf es ρ S).bind fun ds S1 => asgK (.tp [i, j]) (.tup ds) ρ S1 := by
  show (((evA cf es ρ S).bind fun ds => M.pure (D.tup ds)).bind fun d => match asgT (.tp [i, j]) d ρ with
    | some ρ' => M.pure (Fl.nx ρ')
    | none => M.bad) = _
  cases evA cf es ρ S <;> rfl
theorem s_stI (o i e : LE) : exS cf (.stI o i e) ρ S = (evE cf e ρ S).bind fun d S1 => (evE cf o ρ S1).bind fun od S2 => (evE cf i ρ S2).bind fun id S3 => (storeAt od id d S3).bind fun _ S4 => .ok (.nx ρ) S4 := (rfl)
theorem s_ex (e : LE) : exS cf (.ex e) ρ S = (evE cf e ρ S).bind fun _ S1 => .ok (.nx ρ) S1 := (rfl)
theorem s_ret (e : LE) : exS cf (.ret e) ρ S = (evE cf e ρ S).bind fun d S1 => .ok (.rt d) S1 := (rfl)
theorem s_if (c : LE) (a b : LB) : exS cf (.ifs c a b) ρ S = (evE cf c ρ S).bind fun x S1 => iteK x (fun S1 => exB cf a ρ S1) (fun S1 => exB cf b ρ S1) S1 := by
  show (((evE cf c ρ S).bind toBl).bind fun t => if t = true then exB cf a ρ else exB cf b ρ) = _
  cases evE cf c ρ S with
  | ok x S1 =>
    cases x with
    | bl t => cases t <;> rfl
    | _ => rfl
  | exc => rfl
  | bad => rfl
theorem s_for (s : LI) (tg : LT) (b : LB) : exS cf (.for_ s tg b) ρ S = xFor (evI cf s) tg (exB cf b) ρ S := (rfl)
theorem s_whl (c : LE) (b : LB) : exS cf (.whl c b) ρ S = xWhile (evE cf c) (exB cf b) ρ S := (rfl)
theorem s_rai (x : Str) : exS cf (.rai x) ρ S = .exc x S := (rfl)
theorem s_pass : exS cf .pass ρ S = .ok (.nx ρ) S := (rfl)
theorem b_nil : exB cf .nil ρ S = .ok (.nx ρ) S := (rfl)
theorem b_cons (s : LS) (b : LB) : exB cf (.cons s b) ρ S = (exS cf s ρ S).bind (seqB cf b) := by
  show ((exS cf s ρ S).bind fun f => match f with
    | .nx ρ' => exB cf b ρ'
    | .rt d => M.pure (.rt d)) = _
  rfl


/-! ### values -/
@[simp] theorem vw_i (i : Int) : vw S (.int i) = .int i := (rfl)
@[simp] theorem vw_b (i : Bool) : vw S (.bl i) = .bl i := (rfl)
@[simp] theorem vw_t (i : List D) : vw S (.tup i) = .tup i := (rfl)
@[simp] theorem vw_tI (i : List Int) : vw S (tI i) = tI i := (rfl)
@[simp] theorem vw_tT (i : List (List Int)) : vw S (tT i) = tT i := (rfl)
@[simp] theorem vw_l (i : List D) : vw S (.lst i) = .lst i := (rfl)
@[simp] theorem vw_s (i : Str) : vw S (.str i) = .str i := (rfl)
@[simp] theorem vw_n : vw S .non = .non := (rfl)
@[simp] theorem vw_ty (i : String) : vw S (.ty i) = .ty i := (rfl)
@[simp] theorem cmp_lt (a b : Int) : cmpB .Lt (.int a) (.int b) = some (.bl (decide (a < b))) := (rfl)
@[simp] theorem cmp_le (a b : Int) : cmpB .LtE (.int a) (.int b) = some (.bl (decide (a ≤ b))) := (rfl)
@[simp] theorem cmp_gt (a b : Int) : cmpB .Gt (.int a) (.int b) = some (.bl (decide (b < a))) := (rfl)
@[simp] theorem cmp_ge (a b : Int) : cmpB .GtE (.int a) (.int b) = some (.bl (decide (b ≤ a))) := (rfl)
@[simp] theorem cmp_ltT (a b : List Int) : cmpB .Lt (tI a) (tI b) = some (.bl (HT.lexLt a b)) := by
  show ((match intsOf (a.map D.int), intsOf (b.map D.int) with
    | some x, some y => some (HT.lexLt x y)
    | _, _ => none).map D.bl) = _
  rw [intsOf_map, intsOf_map]
  rfl
theorem cmp_eq {a b : D} (ha : a.sh 60 = true) (hb : b.sh 60 = true) : cmpB .Eq a b = some (.bl (a.eqb b)) := by
  have e : cmpD .Eq a b = if a.sh 60 && b.sh 60 then some (a.eqb b) else none := by cases a <;> rfl
  unfold cmpB
  rw [e, ha, hb]
  rfl
theorem cmp_ne {a b : D} (ha : a.sh 60 = true) (hb : b.sh 60 = true) : cmpB .NotEq a b = some (.bl (!a.eqb b)) := by
  have e : cmpD .NotEq a b = if a.sh 60 && b.sh 60 then some (!a.eqb b) else none := by cases a <;> rfl
  unfold cmpB
  rw [e, ha, hb]
  rfl
theorem cmp_inL {a : D} {xs : List D} (ha : a.sh 60 = true) (hb : D.shA xs 58 = true) : cmpB .In a (.lst xs) = some (.bl (xs.any fun x => x.eqb a)) := by
  have e : cmpD .In a (.lst xs) = if a.sh 60 && D.shA xs 58 then some (xs.any fun x => x.eqb a) else none := by cases a <;> rfl
  unfold cmpB
  rw [e, ha, hb]
  rfl
theorem cmp_inT {a : D} {xs : List D} (ha : a.sh 60 = true) (hb : D.shA xs 58 = true) : cmpB .In a (.tup xs) = some (.bl (xs.any fun x => x.eqb a)) := by
  have e : cmpD .In a (.tup xs) = if a.sh 60 && D.shA xs 58 then some (xs.any fun x => x.eqb a) else none := by cases a <;> rfl
  unfold cmpB
  rw [e, ha, hb]
  rfl
theorem cmp_niL {a : D} {xs : List D} (ha : a.sh 60 = true) (hb : D.shA xs 58 = true) : cmpB .NotIn a (.lst xs) = some (.bl (!xs.any fun x => x.eqb a)) := by
  have e : cmpD .NotIn a (.lst xs) = if a.sh 60 && D.shA xs 58 then some (!xs.any fun x => x.eqb a) else none := by cases a <;> rfl
  unfold cmpB
  rw [e, ha, hb]
  rfl
theorem cmp_niT {a : D} {xs : List D} (ha : a.sh 60 = true) (hb : D.shA xs 58 = true) : cmpB .NotIn a (.tup xs) = some (.bl (!xs.any fun x => x.eqb a)) := by
  have e : cmpD .NotIn a (.tup xs) = if a.sh 60 && D.shA xs 58 then some (!xs.any fun x => x.eqb a) else none := by cases a <;> rfl
  unfold cmpB
  rw [e, ha, hb]
  rfl
@[simp] theorem cmp_isN (a b : Bool) : cmpB .IsNot (.bl a) (.bl b) = some (.bl (!decide (a = b))) := (rfl)
@[simp] theorem cmp_isB (a b : Bool) : cmpB .Is (.bl a) (.bl b) = some (.bl (decide (a = b))) := (rfl)
@[simp] theorem bin_add (a b : Int) : binD .Add (.int a) (.int b) = some (.int (a + b)) := (rfl)
@[simp] theorem bin_sub (a b : Int) : binD .Sub (.int a) (.int b) = some (.int (a - b)) := (rfl)
theorem bin_mul {a b : Int} (h : a.natAbs.log2 + b.natAbs.log2 < 1000000) : binD .Mult (.int a) (.int b) = some (.int (a * b)) := if_pos h
theorem bin_mod {a b : Int} (h : b ≠ 0) : binD .Mod (.int a) (.int b) = some (.int (a.fmod b)) := if_pos h
theorem bin_div {a b : Int} (h : b ≠ 0 ∧ b.natAbs < 1073741824) : binD .FloorDiv (.int a) (.int b) = some (.int (a.fdiv b)) := if_pos (.inl h)
theorem bin_pow {a b : Int} (h : 0 ≤ b ∧ b ≤ 1000000 ∧ a.natAbs < 18446744073709551616) : binD .Pow (.int a) (.int b) = some (.int (a ^ b.toNat)) := if_pos h
theorem bin_addT {a b : List D} (h : a.length + b.length ≤ line) : binD .Add (.tup a) (.tup b) = some (.tup (a ++ b)) := if_pos h
theorem bin_addL {a b : List D} (h : a.length + b.length ≤ line) : binD .Add (.lst a) (.lst b) = some (.lst (a ++ b)) := if_pos h
@[simp] theorem isi_int (i : Int) (n : String) : fIsi S [.int i, .ty n] = (kitB "int" n).map D.bl := (rfl)
@[simp] theorem isi_bl (i : Bool) (n : String) : fIsi S [.bl i, .ty n] = (kitB "bool" n).map D.bl := (rfl)
@[simp] theorem isi_str (i : Str) (n : String) : fIsi S [.str i, .ty n] = (kitB "str" n).map D.bl := (rfl)
@[simp] theorem isi_tup (i : List D) (n : String) : fIsi S [.tup i, .ty n] = (kitB "tuple" n).map D.bl := (rfl)
@[simp] theorem isi_tI (i : List Int) (n : String) : fIsi S [tI i, .ty n] = (kitB "tuple" n).map D.bl := (rfl)
@[simp] theorem isi_tT (i : List (List Int)) (n : String) : fIsi S [tT i, .ty n] = (kitB "tuple" n).map D.bl := (rfl)
@[simp] theorem isi_lst (i : List D) (n : String) : fIsi S [.lst i, .ty n] = (kitB "list" n).map D.bl := (rfl)
@[simp] theorem isi_non (n : String) : fIsi S [.non, .ty n] = (kitB "NoneType" n).map D.bl := (rfl)
@[simp] theorem len_t (xs : List D) : fB .len S [.tup xs] = some (.int xs.length) := (rfl)
@[simp] theorem len_l (xs : List D) : fB .len S [.lst xs] = some (.int xs.length) := (rfl)
@[simp] theorem len_tI (xs : List Int) : fB .len S [tI xs] = some (.int xs.length) := by
  show some (D.int ((xs.map D.int).length : Nat)) = _
  rw [List.length_map]
@[simp] theorem len_tT (xs : List (List Int)) : fB .len S [tT xs] = some (.int xs.length) := by
  show some (D.int ((xs.map tI).length : Nat)) = _
  rw [List.length_map]
@[simp] theorem all_l (xs : List Bool) : fB .all S [.lst (xs.map D.bl)] = some (.bl (xs.all id)) := by
  show (blsOf (xs.map D.bl)).map _ = _
  rw [blsOf_map]; rfl
@[simp] theorem sum_l (xs : List Int) : fB .sum S [.lst (xs.map D.int)] = some (.int xs.sum) := by
  show (intsOf (xs.map D.int)).map _ = _
  rw [intsOf_map]; rfl
theorem max_l {xs : List Int} (h : xs ≠ []) : fB .max S [.lst (xs.map D.int)] = some (.int (maxL xs)) := by
  cases xs with
  | nil => exact absurd rfl h
  | cons x xs =>
    show (intsOf ((x :: xs).map D.int)).map _ = _
    rw [intsOf_map]; rfl
theorem min_l {xs : List Int} (h : xs ≠ []) : fB .min S [.lst (xs.map D.int)] = some (.int (minL xs)) := by
  cases xs with
  | nil => exact absurd rfl h
  | cons x xs =>
    show (intsOf ((x :: xs).map D.int)).map _ = _
    rw [intsOf_map]; rfl
@[simp] theorem abs_i (i : Int) : fB .abs S [.int i] = some (.int (if i < 0 then -i else i)) := (rfl)
@[simp] theorem tup_l (xs : List D) : fB .tuple S [.lst xs] = some (.tup xs) := (rfl)
@[simp] theorem tup_t (xs : List D) : fB .tuple S [.tup xs] = some (.tup xs) := (rfl)
@[simp] theorem list_t (xs : List D) : fB .list S [.tup xs] = some (.lst xs) := (rfl)
@[simp] theorem list_l (xs : List D) : fB .list S [.lst xs] = some (.lst xs) := (rfl)
theorem sorted_l {xs : List D} (h : sortOk xs = true) : fB .sorted S [.lst xs] = some (.lst (sortD xs)) := if_pos h
theorem sorted_t {xs : List D} (h : sortOk xs = true) : fB .sorted S [.tup xs] = some (.lst (sortD xs)) := if_pos h
@[simp] theorem not_b (b : Bool) : notD (.bl b) = some (.bl (!b)) := (rfl)
@[simp] theorem neg_i (b : Int) : negD (.int b) = some (.int (-b)) := (rfl)
@[simp] theorem src_t (xs : List D) : srcOf S (.tup xs) = some (.fix xs) := (rfl)
@[simp] theorem src_tI (xs : List Int) : srcOf S (tI xs) = some (.fix (xs.map D.int)) := (rfl)
@[simp] theorem src_tT (xs : List (List Int)) : srcOf S (tT xs) = some (.fix (xs.map tI)) := (rfl)
@[simp] theorem src_l (xs : List D) : srcOf S (.lst xs) = some (.fix xs) := (rfl)
theorem atI_of {α : Type} {xs : List α} {i : Int} {j : Nat} {x : α} (h : i = (j : Int)) (hx : xs[j]? = some x) : atI xs i = some x := by
  subst h
  have hj := (List.getElem?_eq_some_iff.mp hx).1
  unfold atI ixN
  rw [if_pos (Int.natCast_nonneg j), if_pos (Int.ofNat_lt.mpr hj)]
  simpa using hx
@[simp] theorem idx_t (xs : List D) (i : Int) : idxD (.tup xs) (.int i) = atI xs i := (rfl)
@[simp] theorem idx_l (xs : List D) (i : Int) : idxD (.lst xs) (.int i) = atI xs i := (rfl)
@[simp] theorem atI_0 {α : Type} (x : α) (xs : List α) : atI (x :: xs) 0 = some x := atI_of (j := 0) rfl rfl
@[simp] theorem atI_1 {α : Type} (x y : α) (xs : List α) : atI (x :: y :: xs) 1 = some y := atI_of (j := 1) rfl rfl
@[simp] theorem atI_2 {α : Type} (x y z : α) (xs : List α) : atI (x :: y :: z :: xs) 2 = some z := atI_of (j := 2) rfl rfl
theorem rng_1 {j : Int} (h : -1000000 ≤ j ∧ j ≤ 1000000) : rngD [.int j] = some (.fix (rangeD 0 j.toNat)) := if_pos h
theorem rangeD_0 (n : Nat) : rangeD 0 n = ((List.range n).map fun i : Nat => (i : Int)).map D.int := by
  unfold rangeD
  rw [List.map_map]
  exact List.map_congr_left fun i _ => by simp
end
end LC

end
section
set_option maxHeartbeats 4000000
/-! P2: what the shared defs do. -/
namespace LC
open PySem PySem.Spec PyProof.Rows L2
@[simp] theorem kit1 : kitB "int" "int" = some true := by decide +kernel
@[simp] theorem kit2 : kitB "int" "bool" = some false := by decide +kernel
@[simp] theorem kit3 : kitB "bool" "int" = some true := by decide +kernel
@[simp] theorem kit4 : kitB "bool" "bool" = some true := by decide +kernel
@[simp] theorem kit5 : kitB "str" "int" = some false := by decide +kernel
@[simp] theorem kit6 : kitB "str" "tuple" = some false := by decide +kernel
@[simp] theorem kit7 : kitB "tuple" "tuple" = some true := by decide +kernel
@[simp] theorem kit8 : kitB "list" "tuple" = some false := by decide +kernel
@[simp] theorem kit9 : kitB "NoneType" "tuple" = some false := by decide +kernel
@[simp] theorem kit10 : kitB "int" "tuple" = some false := by decide +kernel
@[simp] theorem kit11 : kitB "bool" "tuple" = some false := by decide +kernel
@[simp] theorem kit12 : kitB "NoneType" "int" = some false := by decide +kernel
@[simp] theorem kit13 : kitB "tuple" "int" = some false := by decide +kernel
@[simp] theorem kit14 : kitB "list" "int" = some false := by decide +kernel
@[simp] theorem ceq_i (a b : Int) : cmpB .Eq (.int a) (.int b) = some (.bl (decide (a = b))) := by rw [cmp_eq rfl rfl, eqb_int]
@[simp] theorem cne_i (a b : Int) : cmpB .NotEq (.int a) (.int b) = some (.bl (!decide (a = b))) := by rw [cmp_ne rfl rfl, eqb_int]
@[simp] theorem ceq_tI (a b : List Int) : cmpB .Eq (tI a) (tI b) = some (.bl (decide (a = b))) := by rw [cmp_eq (sh_tI a 59) (sh_tI b 59), eqb_tI]
@[simp] theorem cne_tI (a b : List Int) : cmpB .NotEq (tI a) (tI b) = some (.bl (!decide (a = b))) := by rw [cmp_ne (sh_tI a 59) (sh_tI b 59), eqb_tI]
@[simp] theorem ceq_t0 (a : List Int) : cmpB .Eq (tI a) (.tup []) = some (.bl (decide (a = []))) := ceq_tI a []
@[simp] theorem ceq_tT (a b : List (List Int)) : cmpB .Eq (tT a) (tT b) = some (.bl (decide (a = b))) := by rw [cmp_eq (sh_tT a 58) (sh_tT b 58), eqb_tT]
@[simp] theorem cne_tT (a b : List (List Int)) : cmpB .NotEq (tT a) (tT b) = some (.bl (!decide (a = b))) := by rw [cmp_ne (sh_tT a 58) (sh_tT b 58), eqb_tT]
@[simp] theorem ceq_lI (a b : List Int) : cmpB .Eq (.lst (a.map D.int)) (.lst (b.map D.int)) = some (.bl (decide (a = b))) := by rw [cmp_eq (a := .lst (a.map D.int)) (b := .lst (b.map D.int)) (sh_ints a 59) (sh_ints b 59), eqb_lI]
@[simp] theorem cne_lI (a b : List Int) : cmpB .NotEq (.lst (a.map D.int)) (.lst (b.map D.int)) = some (.bl (!decide (a = b))) := by rw [cmp_ne (a := .lst (a.map D.int)) (b := .lst (b.map D.int)) (sh_ints a 59) (sh_ints b 59), eqb_lI]
@[simp] theorem ceq_l0 (a : List Int) : cmpB .Eq (.lst (a.map D.int)) (.lst []) = some (.bl (decide (a = []))) := ceq_lI a []
@[simp] theorem cne_l0 (a : List Int) : cmpB .NotEq (.lst (a.map D.int)) (.lst []) = some (.bl (!decide (a = []))) := cne_lI a []
@[simp] theorem cin_lT (a : List Int) (b : List (List Int)) : cmpB .In (tI a) (.lst (b.map tI)) = some (.bl (decide (a ∈ b))) := by rw [cmp_inL (sh_tI a 59) (sh_tIs b 57), any_tI]
@[simp] theorem cni_lT (a : List Int) (b : List (List Int)) : cmpB .NotIn (tI a) (.lst (b.map tI)) = some (.bl (!decide (a ∈ b))) := by rw [cmp_niL (sh_tI a 59) (sh_tIs b 57), any_tI]
@[simp] theorem cin_tT (a : List Int) (b : List (List Int)) : cmpB .In (tI a) (tT b) = some (.bl (decide (a ∈ b))) := by
  show cmpB .In (tI a) (.tup (b.map tI)) = _
  rw [cmp_inT (sh_tI a 59) (sh_tIs b 57), any_tI]
@[simp] theorem cin_tI (a : Int) (b : List Int) : cmpB .In (.int a) (tI b) = some (.bl (decide (a ∈ b))) := by
  show cmpB .In (.int a) (.tup (b.map D.int)) = _
  rw [cmp_inT (show (D.int a).sh 60 = true from rfl) (sh_ints b 58), any_int]
section
variable {cf : Str → List D → M D} {ρ : Env} {S : Store}
theorem lcE_eq {α : Type} {vs : List Nat} {s : LI} {tg : LT} {c : LO} {e : LE} (l : List α) (f : α → D) (p : α → Bool) (g : α → D) (he : evI cf s ρ S = .ok (.fix (l.map f)) S)
    (hs : ∀ a ∈ l, ∃ ρ', asgT tg (f a) (wipeE ρ vs) = some ρ' ∧ condM (evO cf c) ρ' S = .ok (p a) S ∧ (p a = true → evE cf e ρ' S = .ok (g a) S)) : evE cf (.lc vs s tg c e) ρ S = .ok (.lst ((l.filter p).map g)) S := lc_eq l f p g he hs
theorem lcE_map {α : Type} {vs : List Nat} {s : LI} {tg : LT} {e : LE} (l : List α) (f : α → D) (g : α → D) (he : evI cf s ρ S = .ok (.fix (l.map f)) S)
    (hs : ∀ a ∈ l, ∃ ρ', asgT tg (f a) (wipeE ρ vs) = some ρ' ∧ evE cf e ρ' S = .ok (g a) S) : evE cf (.lc vs s tg .none e) ρ S = .ok (.lst (l.map g)) S := lc_map l f g he hs
end
@[simp] theorem all_m {α : Type} {S : Store} (l : List α) (p : α → Bool) : fB .all S [.lst (l.map fun a => D.bl (p a))] = some (.bl (l.all p)) := by
  have := all_l (S := S) (l.map p)
  rw [List.map_map, List.all_map] at this
  exact this
@[simp] theorem all_c {α : Type} (l : List α) : l.all (fun _ => true) = true := List.all_eq_true.mpr fun _ _ => rfl
theorem rangeD_n (n : Nat) : rangeD 0 n = (List.range n).map fun i : Nat => D.int (i : Int) := by
  unfold rangeD
  exact List.map_congr_left fun i _ => by simp
@[simp] theorem sum_m {α : Type} {S : Store} (l : List α) (f : α → Int) : fB .sum S [.lst (l.map fun a => D.int (f a))] = some (.int (l.map f).sum) := by
  have := sum_l (S := S) (l.map f)
  rw [List.map_map] at this
  exact this
theorem max_m {α : Type} {S : Store} (l : List α) (f : α → Int) (h : l ≠ []) : fB .max S [.lst (l.map fun a => D.int (f a))] = some (.int (maxL (l.map f))) := by
  have := max_l (S := S) (xs := l.map f) (by simpa using h)
  rw [List.map_map] at this
  exact this
theorem min_m {α : Type} {S : Store} (l : List α) (f : α → Int) (h : l ≠ []) : fB .min S [.lst (l.map fun a => D.int (f a))] = some (.int (minL (l.map f))) := by
  have := min_l (S := S) (xs := l.map f) (by simpa using h)
  rw [List.map_map] at this
  exact this
theorem allT {α : Type} (l : List α) : (l.map fun _ => D.bl true) = (l.map fun _ => true).map D.bl := by rw [List.map_map]; rfl
theorem allT2 {α : Type} (l : List α) : (l.map fun _ => true).all id = true := by rw [List.all_map]; exact List.all_eq_true.mpr fun _ _ => rfl
/-! ### families -/
def lotOk (n : Int) (s : List Int) : Prop := s ≠ [] ∧ (∀ x ∈ s, 0 ≤ x ∧ x ≤ n - 1) ∧ s.Pairwise (· < ·)
structure FamOk (n : Int) (ss : List (List Int)) : Prop where
  lo : 1 ≤ n
  hi : n ≤ 7
  ne : ss ≠ []
  le : ss.length ≤ 8
  lot : ∀ s ∈ ss, lotOk n s
  inc : ss.Pairwise (fun a b => HT.lexLt a b = true)
def fam (n : Int) (ss : List (List Int)) : D := .tup [.int n, tT ss]
theorem inc_len : ∀ (s : List Int) (lo : Int) (n : Nat), s.Pairwise (· < ·) → (∀ x ∈ s, lo ≤ x ∧ x < lo + n) → s.length ≤ n
  | [], _, _, _, _ => Nat.zero_le _
  | x :: xs, lo, n, hp, hb => by
    have h1 := hb x List.mem_cons_self
    obtain ⟨h2, h3⟩ := List.pairwise_cons.mp hp
    have hn : 1 ≤ n := by omega
    have := inc_len xs (lo + 1) (n - 1) h3 fun y hy => by
      have := h2 y hy
      have := hb y (List.mem_cons_of_mem _ hy)
      omega
    simp only [List.length_cons]
    omega
theorem lot_len {n : Int} {s : List Int} (h : lotOk n s) (hn : n ≤ 7) : s.length ≤ 7 := inc_len s 0 7 h.2.2 fun x hx => by
  have := h.2.1 x hx
  omega
theorem pair_next {α : Type} {R : α → α → Prop} {l : List α} (h : l.Pairwise R) {i : Nat} {a b : α} (ha : l[i]? = some a) (hb : l[i + 1]? = some b) : R a b := by
  obtain ⟨h1, e1⟩ := List.getElem?_eq_some_iff.mp ha
  obtain ⟨h2, e2⟩ := List.getElem?_eq_some_iff.mp hb
  have := List.pairwise_iff_getElem.mp h i (i + 1) h1 h2 (by omega)
  rw [e1, e2] at this
  exact this
section
variable {fs : Str → Option Fn} {k : Nat} {S : Store}
theorem rf_eq {f : Str} {F : Fn} {ds : List D} (h : fs f = some F) : runF fs (k + 1) f ds S = (exB (runF fs k) F.body (ds.map some ++ List.replicate (F.ns - ds.length) none) S).bind endF := by
  unfold runF
  rw [h]
  rfl
theorem r_is_between (h : fs "is_between" = some ⟨3, 3, b_is_between⟩) (v lo hi : Int) : runF fs (k + 1) "is_between" [.int v, .int lo, .int hi] S = .ok (.bl (decide (lo ≤ v) && decide (v ≤ hi))) S := by
  rw [rf_eq h]
  by_cases h1 : lo ≤ v
  · simp [b_is_between, e_var, e_cst, e_ty, e_gfn, e_bin, e_cmp, e_chn, e_neg, e_nt, e_one, e_and, e_or, e_ite, e_tup, e_lst, e_idx, e_slc, o_none, o_some, e_call, e_blt, e_isi, a_nil, a_cons, i_of, i_rng, c_none, c_some, s_set, s_setLc, s_asg, s_par, s_stI, s_ex, s_ret, s_if, s_rai, s_pass, b_nil, b_cons, M.opt_some, R.bind_ok, getE_0, getE_s, List.map_cons, List.map_nil, List.cons_append, List.nil_append, List.length_cons, List.length_nil, List.replicate_succ, List.replicate_zero, Nat.reduceSub, Nat.reduceAdd, List.set_cons_zero, List.set_cons_succ, Option.map_some, BT.nm, wipeE, seqK_n, seqK_r, andK_t, andK_f, orK_f, orK_t, iteK_t, iteK_f, asgK_nm, asgK_t2, asgK_t3, endF_n, endF_r, slI_i, toBl_b, vw_i, vw_b, vw_t, vw_tI, vw_tT, vw_l, vw_s, vw_n, vw_ty, src_t, src_tI, src_tT, src_l, bin_add, bin_sub, neg_i, not_b, h1]
  · simp [b_is_between, e_var, e_cst, e_ty, e_gfn, e_bin, e_cmp, e_chn, e_neg, e_nt, e_one, e_and, e_or, e_ite, e_tup, e_lst, e_idx, e_slc, o_none, o_some, e_call, e_blt, e_isi, a_nil, a_cons, i_of, i_rng, c_none, c_some, s_set, s_setLc, s_asg, s_par, s_stI, s_ex, s_ret, s_if, s_rai, s_pass, b_nil, b_cons, M.opt_some, R.bind_ok, getE_0, getE_s, List.map_cons, List.map_nil, List.cons_append, List.nil_append, List.length_cons, List.length_nil, List.replicate_succ, List.replicate_zero, Nat.reduceSub, Nat.reduceAdd, List.set_cons_zero, List.set_cons_succ, Option.map_some, BT.nm, wipeE, seqK_n, seqK_r, andK_t, andK_f, orK_f, orK_t, iteK_t, iteK_f, asgK_nm, asgK_t2, asgK_t3, endF_n, endF_r, slI_i, toBl_b, vw_i, vw_b, vw_t, vw_tI, vw_tT, vw_l, vw_s, vw_n, vw_ty, src_t, src_tI, src_tT, src_l, bin_add, bin_sub, neg_i, not_b, h1]
theorem r_is_lot (h : fs "is_between" = some ⟨3, 3, b_is_between⟩) (h' : fs "is_lot" = some ⟨2, 4, b_is_lot⟩) {n : Int} {s : List Int} (hs : lotOk n s) (hn : n ≤ 7) : runF fs (k + 2) "is_lot" [.int n, tI s] S = .ok (.bl true) S := by
  rw [rf_eq h']
  have hl := lot_len hs hn
  simp [b_is_lot, e_var, e_cst, e_ty, e_gfn, e_bin, e_cmp, e_chn, e_neg, e_nt, e_one, e_and, e_or, e_ite, e_tup, e_lst, e_idx, e_slc, o_none, o_some, e_call, e_blt, e_isi, a_nil, a_cons, i_of, i_rng, c_none, c_some, s_set, s_setLc, s_asg, s_par, s_stI, s_ex, s_ret, s_if, s_rai, s_pass, b_nil, b_cons, M.opt_some, R.bind_ok, getE_0, getE_s, List.map_cons, List.map_nil, List.cons_append, List.nil_append, List.length_cons, List.length_nil, List.replicate_succ, List.replicate_zero, Nat.reduceSub, Nat.reduceAdd, List.set_cons_zero, List.set_cons_succ, Option.map_some, BT.nm, wipeE, seqK_n, seqK_r, andK_t, andK_f, orK_f, orK_t, iteK_t, iteK_f, asgK_nm, asgK_t2, asgK_t3, endF_n, endF_r, slI_i, toBl_b, vw_i, vw_b, vw_t, vw_tI, vw_tT, vw_l, vw_s, vw_n, vw_ty, src_t, src_tI, src_tT, src_l, bin_add, bin_sub, neg_i, not_b, hs.1]
  rw [lcE_map s D.int (fun x => D.bl true) (by simp [e_var, e_cst, e_ty, e_gfn, e_bin, e_cmp, e_chn, e_neg, e_nt, e_one, e_and, e_or, e_ite, e_tup, e_lst, e_idx, e_slc, o_none, o_some, e_call, e_blt, e_isi, a_nil, a_cons, i_of, i_rng, c_none, c_some, s_set, s_setLc, s_asg, s_par, s_stI, s_ex, s_ret, s_if, s_rai, s_pass, b_nil, b_cons, M.opt_some, R.bind_ok, getE_0, getE_s, List.map_cons, List.map_nil, List.cons_append, List.nil_append, List.length_cons, List.length_nil, List.replicate_succ, List.replicate_zero, Nat.reduceSub, Nat.reduceAdd, List.set_cons_zero, List.set_cons_succ, Option.map_some, BT.nm, wipeE, seqK_n, seqK_r, andK_t, andK_f, orK_f, orK_t, iteK_t, iteK_f, asgK_nm, asgK_t2, asgK_t3, endF_n, endF_r, slI_i, toBl_b, vw_i, vw_b, vw_t, vw_tI, vw_tT, vw_l, vw_s, vw_n, vw_ty, src_t, src_tI, src_tT, src_l, bin_add, bin_sub, neg_i, not_b]) (fun x hx => ⟨_, rfl, by
    have := hs.2.1 x hx
    simp [e_var, e_cst, e_ty, e_gfn, e_bin, e_cmp, e_chn, e_neg, e_nt, e_one, e_and, e_or, e_ite, e_tup, e_lst, e_idx, e_slc, o_none, o_some, e_call, e_blt, e_isi, a_nil, a_cons, i_of, i_rng, c_none, c_some, s_set, s_setLc, s_asg, s_par, s_stI, s_ex, s_ret, s_if, s_rai, s_pass, b_nil, b_cons, M.opt_some, R.bind_ok, getE_0, getE_s, List.map_cons, List.map_nil, List.cons_append, List.nil_append, List.length_cons, List.length_nil, List.replicate_succ, List.replicate_zero, Nat.reduceSub, Nat.reduceAdd, List.set_cons_zero, List.set_cons_succ, Option.map_some, BT.nm, wipeE, seqK_n, seqK_r, andK_t, andK_f, orK_f, orK_t, iteK_t, iteK_f, asgK_nm, asgK_t2, asgK_t3, endF_n, endF_r, slI_i, toBl_b, vw_i, vw_b, vw_t, vw_tI, vw_tT, vw_l, vw_s, vw_n, vw_ty, src_t, src_tI, src_tT, src_l, bin_add, bin_sub, neg_i, not_b, wipeE, r_is_between h, this.1, this.2]⟩)]
  simp [e_var, e_cst, e_ty, e_gfn, e_bin, e_cmp, e_chn, e_neg, e_nt, e_one, e_and, e_or, e_ite, e_tup, e_lst, e_idx, e_slc, o_none, o_some, e_call, e_blt, e_isi, a_nil, a_cons, i_of, i_rng, c_none, c_some, s_set, s_setLc, s_asg, s_par, s_stI, s_ex, s_ret, s_if, s_rai, s_pass, b_nil, b_cons, M.opt_some, R.bind_ok, getE_0, getE_s, List.map_cons, List.map_nil, List.cons_append, List.nil_append, List.length_cons, List.length_nil, List.replicate_succ, List.replicate_zero, Nat.reduceSub, Nat.reduceAdd, List.set_cons_zero, List.set_cons_succ, Option.map_some, BT.nm, wipeE, seqK_n, seqK_r, andK_t, andK_f, orK_f, orK_t, iteK_t, iteK_f, asgK_nm, asgK_t2, asgK_t3, endF_n, endF_r, slI_i, toBl_b, vw_i, vw_b, vw_t, vw_tI, vw_tT, vw_l, vw_s, vw_n, vw_ty, src_t, src_tI, src_tT, src_l, bin_add, bin_sub, neg_i, not_b]
  have hne : s.length ≠ 0 := fun z => hs.1 (List.length_eq_zero_iff.mp z)
  rw [lcE_map (List.range (s.length - 1)) (fun i : Nat => D.int (i : Int)) (fun x => D.bl true) (by
    simp [e_var, e_cst, e_ty, e_gfn, e_bin, e_cmp, e_chn, e_neg, e_nt, e_one, e_and, e_or, e_ite, e_tup, e_lst, e_idx, e_slc, o_none, o_some, e_call, e_blt, e_isi, a_nil, a_cons, i_of, i_rng, c_none, c_some, s_set, s_setLc, s_asg, s_par, s_stI, s_ex, s_ret, s_if, s_rai, s_pass, b_nil, b_cons, M.opt_some, R.bind_ok, getE_0, getE_s, List.map_cons, List.map_nil, List.cons_append, List.nil_append, List.length_cons, List.length_nil, List.replicate_succ, List.replicate_zero, Nat.reduceSub, Nat.reduceAdd, List.set_cons_zero, List.set_cons_succ, Option.map_some, BT.nm, wipeE, seqK_n, seqK_r, andK_t, andK_f, orK_f, orK_t, iteK_t, iteK_f, asgK_nm, asgK_t2, asgK_t3, endF_n, endF_r, slI_i, toBl_b, vw_i, vw_b, vw_t, vw_tI, vw_tT, vw_l, vw_s, vw_n, vw_ty, src_t, src_tI, src_tT, src_l, bin_add, bin_sub, neg_i, not_b]
    rw [rng_1 (by omega)]
    rw [show ((s.length : Int) - 1).toNat = s.length - 1 by omega, rangeD_n]
    simp) (fun i hx => ⟨_, rfl, by
      have hi := List.mem_range.mp hx
      have e1 : s[i]? = some s[i] := List.getElem?_eq_getElem (by omega)
      have e2 : s[i + 1]? = some s[i + 1] := List.getElem?_eq_getElem (by omega)
      have hlt := pair_next hs.2.2 e1 e2
      have a1 : atI (s.map D.int) (i : Int) = some (.int s[i]) := atI_of rfl (by rw [List.getElem?_map, e1]; rfl)
      have a2 : atI (s.map D.int) ((i : Int) + 1) = some (.int s[i + 1]) := atI_of (j := i + 1) (by omega) (by rw [List.getElem?_map, e2]; rfl)
      simp [e_var, e_cst, e_ty, e_gfn, e_bin, e_cmp, e_chn, e_neg, e_nt, e_one, e_and, e_or, e_ite, e_tup, e_lst, e_idx, e_slc, o_none, o_some, e_call, e_blt, e_isi, a_nil, a_cons, i_of, i_rng, c_none, c_some, s_set, s_setLc, s_asg, s_par, s_stI, s_ex, s_ret, s_if, s_rai, s_pass, b_nil, b_cons, M.opt_some, R.bind_ok, getE_0, getE_s, List.map_cons, List.map_nil, List.cons_append, List.nil_append, List.length_cons, List.length_nil, List.replicate_succ, List.replicate_zero, Nat.reduceSub, Nat.reduceAdd, List.set_cons_zero, List.set_cons_succ, Option.map_some, BT.nm, wipeE, seqK_n, seqK_r, andK_t, andK_f, orK_f, orK_t, iteK_t, iteK_f, asgK_nm, asgK_t2, asgK_t3, endF_n, endF_r, slI_i, toBl_b, vw_i, vw_b, vw_t, vw_tI, vw_tT, vw_l, vw_s, vw_n, vw_ty, src_t, src_tI, src_tT, src_l, bin_add, bin_sub, neg_i, not_b, wipeE, tI, a1, a2, hlt]⟩)]
  simp [e_var, e_cst, e_ty, e_gfn, e_bin, e_cmp, e_chn, e_neg, e_nt, e_one, e_and, e_or, e_ite, e_tup, e_lst, e_idx, e_slc, o_none, o_some, e_call, e_blt, e_isi, a_nil, a_cons, i_of, i_rng, c_none, c_some, s_set, s_setLc, s_asg, s_par, s_stI, s_ex, s_ret, s_if, s_rai, s_pass, b_nil, b_cons, M.opt_some, R.bind_ok, getE_0, getE_s, List.map_cons, List.map_nil, List.cons_append, List.nil_append, List.length_cons, List.length_nil, List.replicate_succ, List.replicate_zero, Nat.reduceSub, Nat.reduceAdd, List.set_cons_zero, List.set_cons_succ, Option.map_some, BT.nm, wipeE, seqK_n, seqK_r, andK_t, andK_f, orK_f, orK_t, iteK_t, iteK_f, asgK_nm, asgK_t2, asgK_t3, endF_n, endF_r, slI_i, toBl_b, vw_i, vw_b, vw_t, vw_tI, vw_tT, vw_l, vw_s, vw_n, vw_ty, src_t, src_tI, src_tT, src_l, bin_add, bin_sub, neg_i, not_b]
theorem r_is_family (h : fs "is_between" = some ⟨3, 3, b_is_between⟩) (h' : fs "is_lot" = some ⟨2, 4, b_is_lot⟩) (h2 : fs "is_family" = some ⟨1, 5, b_is_family⟩) {n : Int} {ss : List (List Int)} (F : FamOk n ss) : runF fs (k + 3) "is_family" [fam n ss] S = .ok (.bl true) S := by
  rw [rf_eq h2]
  have hl := F.le
  have hlo := F.lo
  have hhi := F.hi
  have hne : ss.length ≠ 0 := fun z => F.ne (List.length_eq_zero_iff.mp z)
  have c1 : (1 : Int) ≤ ss.length := by omega
  have c2 : (ss.length : Int) ≤ 8 := by omega
  simp [b_is_family, e_var, e_cst, e_ty, e_gfn, e_bin, e_cmp, e_chn, e_neg, e_nt, e_one, e_and, e_or, e_ite, e_tup, e_lst, e_idx, e_slc, o_none, o_some, e_call, e_blt, e_isi, a_nil, a_cons, i_of, i_rng, c_none, c_some, s_set, s_setLc, s_asg, s_par, s_stI, s_ex, s_ret, s_if, s_rai, s_pass, b_nil, b_cons, M.opt_some, R.bind_ok, getE_0, getE_s, List.map_cons, List.map_nil, List.cons_append, List.nil_append, List.length_cons, List.length_nil, List.replicate_succ, List.replicate_zero, Nat.reduceSub, Nat.reduceAdd, List.set_cons_zero, List.set_cons_succ, Option.map_some, BT.nm, wipeE, seqK_n, seqK_r, andK_t, andK_f, orK_f, orK_t, iteK_t, iteK_f, asgK_nm, asgK_t2, asgK_t3, endF_n, endF_r, slI_i, toBl_b, vw_i, vw_b, vw_t, vw_tI, vw_tT, vw_l, vw_s, vw_n, vw_ty, src_t, src_tI, src_tT, src_l, bin_add, bin_sub, neg_i, not_b, fam, r_is_between h, hlo, hhi, c1, c2]
  rw [lcE_map ss tI (fun x => D.bl true) (by simp [e_var, e_cst, e_ty, e_gfn, e_bin, e_cmp, e_chn, e_neg, e_nt, e_one, e_and, e_or, e_ite, e_tup, e_lst, e_idx, e_slc, o_none, o_some, e_call, e_blt, e_isi, a_nil, a_cons, i_of, i_rng, c_none, c_some, s_set, s_setLc, s_asg, s_par, s_stI, s_ex, s_ret, s_if, s_rai, s_pass, b_nil, b_cons, M.opt_some, R.bind_ok, getE_0, getE_s, List.map_cons, List.map_nil, List.cons_append, List.nil_append, List.length_cons, List.length_nil, List.replicate_succ, List.replicate_zero, Nat.reduceSub, Nat.reduceAdd, List.set_cons_zero, List.set_cons_succ, Option.map_some, BT.nm, wipeE, seqK_n, seqK_r, andK_t, andK_f, orK_f, orK_t, iteK_t, iteK_f, asgK_nm, asgK_t2, asgK_t3, endF_n, endF_r, slI_i, toBl_b, vw_i, vw_b, vw_t, vw_tI, vw_tT, vw_l, vw_s, vw_n, vw_ty, src_t, src_tI, src_tT, src_l, bin_add, bin_sub, neg_i, not_b]) (fun x hx => ⟨_, rfl, by
    simp [e_var, e_cst, e_ty, e_gfn, e_bin, e_cmp, e_chn, e_neg, e_nt, e_one, e_and, e_or, e_ite, e_tup, e_lst, e_idx, e_slc, o_none, o_some, e_call, e_blt, e_isi, a_nil, a_cons, i_of, i_rng, c_none, c_some, s_set, s_setLc, s_asg, s_par, s_stI, s_ex, s_ret, s_if, s_rai, s_pass, b_nil, b_cons, M.opt_some, R.bind_ok, getE_0, getE_s, List.map_cons, List.map_nil, List.cons_append, List.nil_append, List.length_cons, List.length_nil, List.replicate_succ, List.replicate_zero, Nat.reduceSub, Nat.reduceAdd, List.set_cons_zero, List.set_cons_succ, Option.map_some, BT.nm, wipeE, seqK_n, seqK_r, andK_t, andK_f, orK_f, orK_t, iteK_t, iteK_f, asgK_nm, asgK_t2, asgK_t3, endF_n, endF_r, slI_i, toBl_b, vw_i, vw_b, vw_t, vw_tI, vw_tT, vw_l, vw_s, vw_n, vw_ty, src_t, src_tI, src_tT, src_l, bin_add, bin_sub, neg_i, not_b, r_is_lot h h' (F.lot x hx) hhi]⟩)]
  simp [e_var, e_cst, e_ty, e_gfn, e_bin, e_cmp, e_chn, e_neg, e_nt, e_one, e_and, e_or, e_ite, e_tup, e_lst, e_idx, e_slc, o_none, o_some, e_call, e_blt, e_isi, a_nil, a_cons, i_of, i_rng, c_none, c_some, s_set, s_setLc, s_asg, s_par, s_stI, s_ex, s_ret, s_if, s_rai, s_pass, b_nil, b_cons, M.opt_some, R.bind_ok, getE_0, getE_s, List.map_cons, List.map_nil, List.cons_append, List.nil_append, List.length_cons, List.length_nil, List.replicate_succ, List.replicate_zero, Nat.reduceSub, Nat.reduceAdd, List.set_cons_zero, List.set_cons_succ, Option.map_some, BT.nm, wipeE, seqK_n, seqK_r, andK_t, andK_f, orK_f, orK_t, iteK_t, iteK_f, asgK_nm, asgK_t2, asgK_t3, endF_n, endF_r, slI_i, toBl_b, vw_i, vw_b, vw_t, vw_tI, vw_tT, vw_l, vw_s, vw_n, vw_ty, src_t, src_tI, src_tT, src_l, bin_add, bin_sub, neg_i, not_b]
  rw [lcE_map (List.range (ss.length - 1)) (fun i : Nat => D.int (i : Int)) (fun x => D.bl true) (by
    simp [e_var, e_cst, e_ty, e_gfn, e_bin, e_cmp, e_chn, e_neg, e_nt, e_one, e_and, e_or, e_ite, e_tup, e_lst, e_idx, e_slc, o_none, o_some, e_call, e_blt, e_isi, a_nil, a_cons, i_of, i_rng, c_none, c_some, s_set, s_setLc, s_asg, s_par, s_stI, s_ex, s_ret, s_if, s_rai, s_pass, b_nil, b_cons, M.opt_some, R.bind_ok, getE_0, getE_s, List.map_cons, List.map_nil, List.cons_append, List.nil_append, List.length_cons, List.length_nil, List.replicate_succ, List.replicate_zero, Nat.reduceSub, Nat.reduceAdd, List.set_cons_zero, List.set_cons_succ, Option.map_some, BT.nm, wipeE, seqK_n, seqK_r, andK_t, andK_f, orK_f, orK_t, iteK_t, iteK_f, asgK_nm, asgK_t2, asgK_t3, endF_n, endF_r, slI_i, toBl_b, vw_i, vw_b, vw_t, vw_tI, vw_tT, vw_l, vw_s, vw_n, vw_ty, src_t, src_tI, src_tT, src_l, bin_add, bin_sub, neg_i, not_b]
    rw [rng_1 (by omega)]
    rw [show ((ss.length : Int) - 1).toNat = ss.length - 1 by omega, rangeD_n]
    simp) (fun i hx => ⟨_, rfl, by
      have hi := List.mem_range.mp hx
      have e1 : ss[i]? = some ss[i] := List.getElem?_eq_getElem (by omega)
      have e2 : ss[i + 1]? = some ss[i + 1] := List.getElem?_eq_getElem (by omega)
      have hlt := pair_next F.inc e1 e2
      have a1 : atI (ss.map tI) (i : Int) = some (tI ss[i]) := atI_of rfl (by rw [List.getElem?_map, e1]; rfl)
      have a2 : atI (ss.map tI) ((i : Int) + 1) = some (tI ss[i + 1]) := atI_of (j := i + 1) (by omega) (by rw [List.getElem?_map, e2]; rfl)
      simp [e_var, e_cst, e_ty, e_gfn, e_bin, e_cmp, e_chn, e_neg, e_nt, e_one, e_and, e_or, e_ite, e_tup, e_lst, e_idx, e_slc, o_none, o_some, e_call, e_blt, e_isi, a_nil, a_cons, i_of, i_rng, c_none, c_some, s_set, s_setLc, s_asg, s_par, s_stI, s_ex, s_ret, s_if, s_rai, s_pass, b_nil, b_cons, M.opt_some, R.bind_ok, getE_0, getE_s, List.map_cons, List.map_nil, List.cons_append, List.nil_append, List.length_cons, List.length_nil, List.replicate_succ, List.replicate_zero, Nat.reduceSub, Nat.reduceAdd, List.set_cons_zero, List.set_cons_succ, Option.map_some, BT.nm, wipeE, seqK_n, seqK_r, andK_t, andK_f, orK_f, orK_t, iteK_t, iteK_f, asgK_nm, asgK_t2, asgK_t3, endF_n, endF_r, slI_i, toBl_b, vw_i, vw_b, vw_t, vw_tI, vw_tT, vw_l, vw_s, vw_n, vw_ty, src_t, src_tI, src_tT, src_l, bin_add, bin_sub, neg_i, not_b, tT, a1, a2, hlt]⟩)]
  simp [e_var, e_cst, e_ty, e_gfn, e_bin, e_cmp, e_chn, e_neg, e_nt, e_one, e_and, e_or, e_ite, e_tup, e_lst, e_idx, e_slc, o_none, o_some, e_call, e_blt, e_isi, a_nil, a_cons, i_of, i_rng, c_none, c_some, s_set, s_setLc, s_asg, s_par, s_stI, s_ex, s_ret, s_if, s_rai, s_pass, b_nil, b_cons, M.opt_some, R.bind_ok, getE_0, getE_s, List.map_cons, List.map_nil, List.cons_append, List.nil_append, List.length_cons, List.length_nil, List.replicate_succ, List.replicate_zero, Nat.reduceSub, Nat.reduceAdd, List.set_cons_zero, List.set_cons_succ, Option.map_some, BT.nm, wipeE, seqK_n, seqK_r, andK_t, andK_f, orK_f, orK_t, iteK_t, iteK_f, asgK_nm, asgK_t2, asgK_t3, endF_n, endF_r, slI_i, toBl_b, vw_i, vw_b, vw_t, vw_tI, vw_tT, vw_l, vw_s, vw_n, vw_ty, src_t, src_tI, src_tT, src_l, bin_add, bin_sub, neg_i, not_b]
end
/-- the text's defs that judge a family -/
structure HasF (fs : Str → Option Fn) : Prop where
  bet : fs "is_between" = some ⟨3, 3, b_is_between⟩
  lot : fs "is_lot" = some ⟨2, 4, b_is_lot⟩
  fam : fs "is_family" = some ⟨1, 5, b_is_family⟩
  chk : fs "check_family" = some ⟨1, 1, b_check_family⟩
section
variable {fs : Str → Option Fn} {k : Nat} {S : Store} {n : Int} {ss : List (List Int)}
theorem r_check_family (h : HasF fs) (F : FamOk n ss) : runF fs (k + 4) "check_family" [fam n ss] S = .ok .non S := by
  rw [rf_eq h.chk]
  simp [b_check_family, e_var, e_cst, e_ty, e_gfn, e_bin, e_cmp, e_chn, e_neg, e_nt, e_one, e_and, e_or, e_ite, e_tup, e_lst, e_idx, e_slc, o_none, o_some, e_call, e_blt, e_isi, a_nil, a_cons, i_of, i_rng, c_none, c_some, s_set, s_setLc, s_asg, s_par, s_stI, s_ex, s_ret, s_if, s_rai, s_pass, b_nil, b_cons, M.opt_some, R.bind_ok, getE_0, getE_s, List.map_cons, List.map_nil, List.cons_append, List.nil_append, List.length_cons, List.length_nil, List.replicate_succ, List.replicate_zero, Nat.reduceSub, Nat.reduceAdd, List.set_cons_zero, List.set_cons_succ, Option.map_some, BT.nm, wipeE, seqK_n, seqK_r, andK_t, andK_f, orK_f, orK_t, iteK_t, iteK_f, asgK_nm, asgK_t2, asgK_t3, endF_n, endF_r, slI_i, toBl_b, vw_i, vw_b, vw_t, vw_tI, vw_tT, vw_l, vw_s, vw_n, vw_ty, src_t, src_tI, src_tT, src_l, bin_add, bin_sub, neg_i, not_b, r_is_family h.bet h.lot h.fam F]
end
/-! ### colours -/
def hueOk (n : Int) (h : List Int) : Prop := (h.length : Int) = n ∧ ∀ x ∈ h, x = -1 ∨ x = 1
def ssum (h : List Int) (s : List Int) : Int := (s.map fun i => h.getD i.toNat 0).sum
def iabs (i : Int) : Int := if i < 0 then -i else i
def unev (h : List Int) (ss : List (List Int)) : Int := maxL (ss.map fun s => iabs (ssum h s))
def rows : Nat → List (List Int)
  | 0 => [[]]
  | n + 1 => (rows n).flatMap fun r => [r ++ [-1], r ++ [1]]
def least (n : Nat) (ss : List (List Int)) : Int := minL ((rows n).map fun h => unev h ss)
theorem rows_len : ∀ n, (rows n).length = 2 ^ n
  | 0 => rfl
  | n + 1 => by
    show ((rows n).flatMap _).length = _
    rw [List.length_flatMap]
    simp only [List.length_cons, List.length_nil, List.map_const', List.sum_replicate_nat]
    rw [rows_len n, Nat.pow_succ]
theorem rows_ok : ∀ n h, h ∈ rows n ↔ h.length = n ∧ ∀ x ∈ h, x = -1 ∨ x = 1
  | 0, h => by
    constructor
    · intro z
      have : h = [] := by simpa [rows] using z
      subst this
      exact ⟨rfl, fun x hx => by cases hx⟩
    · rintro ⟨z, _⟩
      have := List.length_eq_zero_iff.mp z
      subst this
      simp [rows]
  | n + 1, h => by
    have e : rows (n + 1) = (rows n).flatMap fun r => [r ++ [-1], r ++ [1]] := rfl
    rw [e, List.mem_flatMap]
    constructor
    · rintro ⟨r, hr, hh⟩
      obtain ⟨l, a⟩ := (rows_ok n r).mp hr
      simp only [List.mem_cons, List.not_mem_nil, or_false] at hh
      rcases hh with rfl | rfl
      · refine ⟨by simp [l], fun x hx => ?_⟩
        rcases List.mem_append.mp hx with hx | hx
        · exact a x hx
        · simp at hx; exact .inl hx
      · refine ⟨by simp [l], fun x hx => ?_⟩
        rcases List.mem_append.mp hx with hx | hx
        · exact a x hx
        · simp at hx; exact .inr hx
    · rintro ⟨l, a⟩
      have hne : h ≠ [] := by rintro rfl; cases l
      have e2 := List.dropLast_concat_getLast hne
      refine ⟨h.dropLast, (rows_ok n _).mpr ⟨by simp [l], fun x hx => a x (List.dropLast_subset _ hx)⟩, ?_⟩
      rcases a _ (List.getLast_mem hne) with q | q
      · rw [q] at e2
        rw [e2]; simp
      · rw [q] at e2
        rw [e2]; simp
theorem rows_ne (n : Nat) : rows n ≠ [] := fun z => by
  have := rows_len n
  rw [z] at this
  have : 0 < 2 ^ n := Nat.pow_pos (by decide)
  simp at *
  omega
theorem at_hue {h : List Int} {i : Int} (h0 : 0 ≤ i) (h1 : i < h.length) : atI (h.map D.int) i = some (.int (h.getD i.toNat 0)) := by
  have hi : i.toNat < h.length := by omega
  refine atI_of (j := i.toNat) (by omega) ?_
  rw [List.getElem?_map, List.getElem?_eq_getElem hi]
  simp [List.getD, List.getElem?_eq_getElem hi]
theorem lc2E_eq {cf : Str → List D → M D} {ρ : Env} {S : Store} {α β : Type} {vs vs1 : List Nat} {s s1 : LI} {tg tg1 : LT} {e : LE} (l : List α) (f : α → D) (l2 : List β) (f2 : β → D) (g : α → β → D) (he : evI cf s ρ S = .ok (.fix (l.map f)) S)
    (hs : ∀ a ∈ l, ∃ ρ', asgT tg (f a) (wipeE ρ vs) = some ρ' ∧ evI cf s1 ρ' S = .ok (.fix (l2.map f2)) S ∧ ∀ b ∈ l2, ∃ ρ2, asgT tg1 (f2 b) (wipeE ρ' vs1) = some ρ2 ∧ evE cf e ρ2 S = .ok (g a b) S) (hl : l.length * l2.length < line) :
    evE cf (.lc2 vs vs1 s tg .none s1 tg1 .none e) ρ S = .ok (.lst (l.flatMap fun a => l2.map (g a))) S := by
  show (evI cf s ρ S).bind (fun s => M.bind (walkAll s (lcBody2 vs vs1 tg none (evI cf s1) tg1 none (evE cf e) ρ) []) fun ys => M.pure (LC.D.lst ys)) = _
  rw [he]
  have h1 : Wp (walkAll (.fix (l.map f)) (lcBody2 vs vs1 tg none (evI cf s1) tg1 none (evE cf e) ρ) [] S) (fun ys S' => S' = S ∧ ys = (l.take (l.map f).length).flatMap fun a => l2.map (g a)) := by
    refine wp_walkAll (fun i acc S' => S' = S ∧ acc = (l.take i).flatMap fun a => l2.map (g a)) ⟨rfl, rfl⟩ fun i d acc S' hx hI => ?_
    obtain ⟨rfl, rfl⟩ := hI
    rw [List.getElem?_map] at hx
    cases q : l[i]? with
    | none => rw [q] at hx; cases hx
    | some a =>
      rw [q] at hx
      cases hx
      obtain ⟨ρ', e1, e2, e3⟩ := hs a (List.mem_of_getElem? q)
      have et : l.take (i + 1) = l.take i ++ [a] := by rw [List.take_add_one, q]; rfl
      have hi := (List.getElem?_eq_some_iff.mp q).1
      unfold lcBody2
      rw [e1]
      refine Wp.bind (Wp.nox (Wp.ok ?_))
      rw [if_pos rfl]
      refine Wp.bind (Wp.nox (Wp.of e2 ?_))
      have h2 : Wp (walkAll (.fix (l2.map f2)) (lcBody1 vs1 tg1 none (evE cf e) ρ') ((l.take i).flatMap fun a => l2.map (g a)) S') (fun ys S2 => S2 = S' ∧ ys = ((l.take i).flatMap fun a => l2.map (g a)) ++ (l2.take (l2.map f2).length).map (g a)) := by
        refine wp_walkAll (fun j acc S2 => S2 = S' ∧ acc = ((l.take i).flatMap fun a => l2.map (g a)) ++ (l2.take j).map (g a)) ⟨rfl, by simp⟩ fun j d acc S2 hx2 hI2 => ?_
        obtain ⟨rfl, rfl⟩ := hI2
        rw [List.getElem?_map] at hx2
        cases q2 : l2[j]? with
        | none => rw [q2] at hx2; cases hx2
        | some b =>
          rw [q2] at hx2
          cases hx2
          obtain ⟨ρ2, e4, e5⟩ := e3 b (List.mem_of_getElem? q2)
          have et2 : l2.take (j + 1) = l2.take j ++ [b] := by rw [List.take_add_one, q2]; rfl
          have hj := (List.getElem?_eq_some_iff.mp q2).1
          unfold lcBody1
          rw [e4]
          refine Wp.bind (Wp.nox (Wp.ok ?_))
          rw [if_pos rfl]
          refine Wp.bind (Wp.nox (Wp.of e5 ?_))
          have hlen : (((l.take i).flatMap fun a => l2.map (g a)) ++ (l2.take j).map (g a)).length < line := by
            refine Nat.lt_of_le_of_lt ?_ hl
            rw [List.length_append, List.length_flatMap, List.length_map, List.length_take]
            simp only [List.length_map]
            rw [List.map_const', List.sum_replicate_nat, List.length_take]
            have : (min i l.length + 1) * l2.length ≤ l.length * l2.length := Nat.mul_le_mul_right _ (by omega)
            rw [Nat.add_mul] at this
            omega
          rw [if_pos hlen]
          refine Wp.ok ⟨rfl, ?_⟩
          rw [et2, List.map_append, List.append_assoc]
          rfl
      refine h2.mono fun ys S2 h => ?_
      obtain ⟨h3, h4⟩ := h
      refine ⟨h3, ?_⟩
      rw [h4, et, List.flatMap_append, List.length_map, List.take_length]
      simp
  obtain ⟨ys, S', e1, e2, e3⟩ := h1.get
  subst e2
  subst e3
  show (walkAll (.fix (l.map f)) (lcBody2 vs vs1 tg none (evI cf s1) tg1 none (evE cf e) ρ) [] S').bind _ = _
  rw [e1, List.length_map, List.take_length]
  rfl
end LC

end
section
set_option maxHeartbeats 4000000
/-! P3: sums, the least, all colours. -/
namespace LC
open PySem PySem.Spec PyProof.Rows L2
structure HasC (fs : Str → Option Fn) : Prop extends HasF fs where
  sums : fs "found_sums" = some ⟨2, 4, b_found_sums⟩
  unev : fs "found_uneven" = some ⟨2, 3, b_found_uneven⟩
  allc : fs "all_colours" = some ⟨1, 5, b_all_colours⟩
  flst : fs "found_least" = some ⟨1, 2, b_found_least⟩
section
variable {fs : Str → Option Fn} {k : Nat} {S : Store} {n : Int} {ss : List (List Int)}
theorem tI_map {α : Type} (l : List α) (f : α → Int) : D.tup (l.map fun a => D.int (f a)) = tI (l.map f) := by
  unfold tI; rw [List.map_map]; rfl
theorem r_sums {x : Str} (h : fs x = some ⟨2, 4, b_found_sums⟩) {c : List Int} (F : FamOk n ss) (hc : (c.length : Int) = n) : runF fs (k + 1) x [fam n ss, tI c] S = .ok (tI (ss.map (ssum c))) S := by
  rw [rf_eq h]
  simp [b_found_sums, e_var, e_cst, e_ty, e_gfn, e_bin, e_cmp, e_chn, e_neg, e_nt, e_one, e_and, e_or, e_ite, e_tup, e_lst, e_idx, e_slc, o_none, o_some, e_call, e_blt, e_isi, a_nil, a_cons, i_of, i_rng, c_none, c_some, s_set, s_setLc, s_asg, s_par, s_stI, s_ex, s_ret, s_if, s_rai, s_pass, b_nil, b_cons, M.opt_some, R.bind_ok, getE_0, getE_s, List.map_cons, List.map_nil, List.cons_append, List.nil_append, List.length_cons, List.length_nil, List.replicate_succ, List.replicate_zero, Nat.reduceSub, Nat.reduceAdd, List.set_cons_zero, List.set_cons_succ, Option.map_some, BT.nm, wipeE, seqK_n, seqK_r, andK_t, andK_f, orK_f, orK_t, iteK_t, iteK_f, asgK_nm, asgK_t2, asgK_t3, endF_n, endF_r, slI_i, toBl_b, vw_i, vw_b, vw_t, vw_tI, vw_tT, vw_l, vw_s, vw_n, vw_ty, src_t, src_tI, src_tT, src_l, bin_add, bin_sub, neg_i, not_b, fam]
  rw [lcE_map ss tI (fun s => D.int (ssum c s)) (by simp [e_var, e_cst, e_ty, e_gfn, e_bin, e_cmp, e_chn, e_neg, e_nt, e_one, e_and, e_or, e_ite, e_tup, e_lst, e_idx, e_slc, o_none, o_some, e_call, e_blt, e_isi, a_nil, a_cons, i_of, i_rng, c_none, c_some, s_set, s_setLc, s_asg, s_par, s_stI, s_ex, s_ret, s_if, s_rai, s_pass, b_nil, b_cons, M.opt_some, R.bind_ok, getE_0, getE_s, List.map_cons, List.map_nil, List.cons_append, List.nil_append, List.length_cons, List.length_nil, List.replicate_succ, List.replicate_zero, Nat.reduceSub, Nat.reduceAdd, List.set_cons_zero, List.set_cons_succ, Option.map_some, BT.nm, wipeE, seqK_n, seqK_r, andK_t, andK_f, orK_f, orK_t, iteK_t, iteK_f, asgK_nm, asgK_t2, asgK_t3, endF_n, endF_r, slI_i, toBl_b, vw_i, vw_b, vw_t, vw_tI, vw_tT, vw_l, vw_s, vw_n, vw_ty, src_t, src_tI, src_tT, src_l, bin_add, bin_sub, neg_i, not_b]) (fun s hs => ⟨_, rfl, by
    simp [e_var, e_cst, e_ty, e_gfn, e_bin, e_cmp, e_chn, e_neg, e_nt, e_one, e_and, e_or, e_ite, e_tup, e_lst, e_idx, e_slc, o_none, o_some, e_call, e_blt, e_isi, a_nil, a_cons, i_of, i_rng, c_none, c_some, s_set, s_setLc, s_asg, s_par, s_stI, s_ex, s_ret, s_if, s_rai, s_pass, b_nil, b_cons, M.opt_some, R.bind_ok, getE_0, getE_s, List.map_cons, List.map_nil, List.cons_append, List.nil_append, List.length_cons, List.length_nil, List.replicate_succ, List.replicate_zero, Nat.reduceSub, Nat.reduceAdd, List.set_cons_zero, List.set_cons_succ, Option.map_some, BT.nm, wipeE, seqK_n, seqK_r, andK_t, andK_f, orK_f, orK_t, iteK_t, iteK_f, asgK_nm, asgK_t2, asgK_t3, endF_n, endF_r, slI_i, toBl_b, vw_i, vw_b, vw_t, vw_tI, vw_tT, vw_l, vw_s, vw_n, vw_ty, src_t, src_tI, src_tT, src_l, bin_add, bin_sub, neg_i, not_b]
    rw [lcE_map s D.int (fun i => D.int (c.getD i.toNat 0)) (by simp [e_var, e_cst, e_ty, e_gfn, e_bin, e_cmp, e_chn, e_neg, e_nt, e_one, e_and, e_or, e_ite, e_tup, e_lst, e_idx, e_slc, o_none, o_some, e_call, e_blt, e_isi, a_nil, a_cons, i_of, i_rng, c_none, c_some, s_set, s_setLc, s_asg, s_par, s_stI, s_ex, s_ret, s_if, s_rai, s_pass, b_nil, b_cons, M.opt_some, R.bind_ok, getE_0, getE_s, List.map_cons, List.map_nil, List.cons_append, List.nil_append, List.length_cons, List.length_nil, List.replicate_succ, List.replicate_zero, Nat.reduceSub, Nat.reduceAdd, List.set_cons_zero, List.set_cons_succ, Option.map_some, BT.nm, wipeE, seqK_n, seqK_r, andK_t, andK_f, orK_f, orK_t, iteK_t, iteK_f, asgK_nm, asgK_t2, asgK_t3, endF_n, endF_r, slI_i, toBl_b, vw_i, vw_b, vw_t, vw_tI, vw_tT, vw_l, vw_s, vw_n, vw_ty, src_t, src_tI, src_tT, src_l, bin_add, bin_sub, neg_i, not_b]) (fun i hi => ⟨_, rfl, by
      have hb := (F.lot s hs).2.1 i hi
      simp [e_var, e_cst, e_ty, e_gfn, e_bin, e_cmp, e_chn, e_neg, e_nt, e_one, e_and, e_or, e_ite, e_tup, e_lst, e_idx, e_slc, o_none, o_some, e_call, e_blt, e_isi, a_nil, a_cons, i_of, i_rng, c_none, c_some, s_set, s_setLc, s_asg, s_par, s_stI, s_ex, s_ret, s_if, s_rai, s_pass, b_nil, b_cons, M.opt_some, R.bind_ok, getE_0, getE_s, List.map_cons, List.map_nil, List.cons_append, List.nil_append, List.length_cons, List.length_nil, List.replicate_succ, List.replicate_zero, Nat.reduceSub, Nat.reduceAdd, List.set_cons_zero, List.set_cons_succ, Option.map_some, BT.nm, wipeE, seqK_n, seqK_r, andK_t, andK_f, orK_f, orK_t, iteK_t, iteK_f, asgK_nm, asgK_t2, asgK_t3, endF_n, endF_r, slI_i, toBl_b, vw_i, vw_b, vw_t, vw_tI, vw_tT, vw_l, vw_s, vw_n, vw_ty, src_t, src_tI, src_tT, src_l, bin_add, bin_sub, neg_i, not_b, tI]
      rw [at_hue hb.1 (by omega)]
      simp⟩)]
    simp [e_var, e_cst, e_ty, e_gfn, e_bin, e_cmp, e_chn, e_neg, e_nt, e_one, e_and, e_or, e_ite, e_tup, e_lst, e_idx, e_slc, o_none, o_some, e_call, e_blt, e_isi, a_nil, a_cons, i_of, i_rng, c_none, c_some, s_set, s_setLc, s_asg, s_par, s_stI, s_ex, s_ret, s_if, s_rai, s_pass, b_nil, b_cons, M.opt_some, R.bind_ok, getE_0, getE_s, List.map_cons, List.map_nil, List.cons_append, List.nil_append, List.length_cons, List.length_nil, List.replicate_succ, List.replicate_zero, Nat.reduceSub, Nat.reduceAdd, List.set_cons_zero, List.set_cons_succ, Option.map_some, BT.nm, wipeE, seqK_n, seqK_r, andK_t, andK_f, orK_f, orK_t, iteK_t, iteK_f, asgK_nm, asgK_t2, asgK_t3, endF_n, endF_r, slI_i, toBl_b, vw_i, vw_b, vw_t, vw_tI, vw_tT, vw_l, vw_s, vw_n, vw_ty, src_t, src_tI, src_tT, src_l, bin_add, bin_sub, neg_i, not_b, ssum]⟩)]
  simp [e_var, e_cst, e_ty, e_gfn, e_bin, e_cmp, e_chn, e_neg, e_nt, e_one, e_and, e_or, e_ite, e_tup, e_lst, e_idx, e_slc, o_none, o_some, e_call, e_blt, e_isi, a_nil, a_cons, i_of, i_rng, c_none, c_some, s_set, s_setLc, s_asg, s_par, s_stI, s_ex, s_ret, s_if, s_rai, s_pass, b_nil, b_cons, M.opt_some, R.bind_ok, getE_0, getE_s, List.map_cons, List.map_nil, List.cons_append, List.nil_append, List.length_cons, List.length_nil, List.replicate_succ, List.replicate_zero, Nat.reduceSub, Nat.reduceAdd, List.set_cons_zero, List.set_cons_succ, Option.map_some, BT.nm, wipeE, seqK_n, seqK_r, andK_t, andK_f, orK_f, orK_t, iteK_t, iteK_f, asgK_nm, asgK_t2, asgK_t3, endF_n, endF_r, slI_i, toBl_b, vw_i, vw_b, vw_t, vw_tI, vw_tT, vw_l, vw_s, vw_n, vw_ty, src_t, src_tI, src_tT, src_l, bin_add, bin_sub, neg_i, not_b]
  exact tI_map ss (ssum c)
theorem r_uneven {x y : Str} {b : LB} (hb : b = .cons (.ret (.blt .max (.cons (.lc [2] (.of (.call y (.cons (.var 0) (.cons (.var 1) .nil)))) (.nm 2) .none (.blt .abs (.cons (.var 2) .nil))) .nil))) .nil) (h0 : fs y = some ⟨2, 4, b_found_sums⟩) (h : fs x = some ⟨2, 3, b⟩) {c : List Int} (F : FamOk n ss) (hc : (c.length : Int) = n) :
    runF fs (k + 2) x [fam n ss, tI c] S = .ok (.int (unev c ss)) S := by
  rw [rf_eq h]
  simp [hb, e_var, e_cst, e_ty, e_gfn, e_bin, e_cmp, e_chn, e_neg, e_nt, e_one, e_and, e_or, e_ite, e_tup, e_lst, e_idx, e_slc, o_none, o_some, e_call, e_blt, e_isi, a_nil, a_cons, i_of, i_rng, c_none, c_some, s_set, s_setLc, s_asg, s_par, s_stI, s_ex, s_ret, s_if, s_rai, s_pass, b_nil, b_cons, M.opt_some, R.bind_ok, getE_0, getE_s, List.map_cons, List.map_nil, List.cons_append, List.nil_append, List.length_cons, List.length_nil, List.replicate_succ, List.replicate_zero, Nat.reduceSub, Nat.reduceAdd, List.set_cons_zero, List.set_cons_succ, Option.map_some, BT.nm, wipeE, seqK_n, seqK_r, andK_t, andK_f, orK_f, orK_t, iteK_t, iteK_f, asgK_nm, asgK_t2, asgK_t3, endF_n, endF_r, slI_i, toBl_b, vw_i, vw_b, vw_t, vw_tI, vw_tT, vw_l, vw_s, vw_n, vw_ty, src_t, src_tI, src_tT, src_l, bin_add, bin_sub, neg_i, not_b]
  rw [lcE_map (ss.map (ssum c)) D.int (fun i => D.int (iabs i)) (by simp [e_var, e_cst, e_ty, e_gfn, e_bin, e_cmp, e_chn, e_neg, e_nt, e_one, e_and, e_or, e_ite, e_tup, e_lst, e_idx, e_slc, o_none, o_some, e_call, e_blt, e_isi, a_nil, a_cons, i_of, i_rng, c_none, c_some, s_set, s_setLc, s_asg, s_par, s_stI, s_ex, s_ret, s_if, s_rai, s_pass, b_nil, b_cons, M.opt_some, R.bind_ok, getE_0, getE_s, List.map_cons, List.map_nil, List.cons_append, List.nil_append, List.length_cons, List.length_nil, List.replicate_succ, List.replicate_zero, Nat.reduceSub, Nat.reduceAdd, List.set_cons_zero, List.set_cons_succ, Option.map_some, BT.nm, wipeE, seqK_n, seqK_r, andK_t, andK_f, orK_f, orK_t, iteK_t, iteK_f, asgK_nm, asgK_t2, asgK_t3, endF_n, endF_r, slI_i, toBl_b, vw_i, vw_b, vw_t, vw_tI, vw_tT, vw_l, vw_s, vw_n, vw_ty, src_t, src_tI, src_tT, src_l, bin_add, bin_sub, neg_i, not_b, r_sums h0 F hc]) (fun i hi => ⟨_, rfl, by simp [e_var, e_cst, e_ty, e_gfn, e_bin, e_cmp, e_chn, e_neg, e_nt, e_one, e_and, e_or, e_ite, e_tup, e_lst, e_idx, e_slc, o_none, o_some, e_call, e_blt, e_isi, a_nil, a_cons, i_of, i_rng, c_none, c_some, s_set, s_setLc, s_asg, s_par, s_stI, s_ex, s_ret, s_if, s_rai, s_pass, b_nil, b_cons, M.opt_some, R.bind_ok, getE_0, getE_s, List.map_cons, List.map_nil, List.cons_append, List.nil_append, List.length_cons, List.length_nil, List.replicate_succ, List.replicate_zero, Nat.reduceSub, Nat.reduceAdd, List.set_cons_zero, List.set_cons_succ, Option.map_some, BT.nm, wipeE, seqK_n, seqK_r, andK_t, andK_f, orK_f, orK_t, iteK_t, iteK_f, asgK_nm, asgK_t2, asgK_t3, endF_n, endF_r, slI_i, toBl_b, vw_i, vw_b, vw_t, vw_tI, vw_tT, vw_l, vw_s, vw_n, vw_ty, src_t, src_tI, src_tT, src_l, bin_add, bin_sub, neg_i, not_b, iabs]⟩)]
  simp only [R.bind_ok]
  rw [max_m _ _ (by simpa using F.ne)]
  simp [e_var, e_cst, e_ty, e_gfn, e_bin, e_cmp, e_chn, e_neg, e_nt, e_one, e_and, e_or, e_ite, e_tup, e_lst, e_idx, e_slc, o_none, o_some, e_call, e_blt, e_isi, a_nil, a_cons, i_of, i_rng, c_none, c_some, s_set, s_setLc, s_asg, s_par, s_stI, s_ex, s_ret, s_if, s_rai, s_pass, b_nil, b_cons, M.opt_some, R.bind_ok, getE_0, getE_s, List.map_cons, List.map_nil, List.cons_append, List.nil_append, List.length_cons, List.length_nil, List.replicate_succ, List.replicate_zero, Nat.reduceSub, Nat.reduceAdd, List.set_cons_zero, List.set_cons_succ, Option.map_some, BT.nm, wipeE, seqK_n, seqK_r, andK_t, andK_f, orK_f, orK_t, iteK_t, iteK_f, asgK_nm, asgK_t2, asgK_t3, endF_n, endF_r, slI_i, toBl_b, vw_i, vw_b, vw_t, vw_tI, vw_tT, vw_l, vw_s, vw_n, vw_ty, src_t, src_tI, src_tT, src_l, bin_add, bin_sub, neg_i, not_b, unev]
  rfl
theorem r_rows {x : Str} (h : fs x = some ⟨1, 5, b_all_colours⟩) (h0 : 0 ≤ n) (h7 : n ≤ 7) : runF fs (k + 1) x [.int n] S = .ok (.lst ((rows n.toNat).map tI)) S := by
  rw [rf_eq h]
  simp only [b_all_colours, e_var, e_cst, e_ty, e_gfn, e_bin, e_cmp, e_chn, e_neg, e_nt, e_one, e_and, e_or, e_ite, e_tup, e_lst, e_idx, e_slc, o_none, o_some, e_call, e_blt, e_isi, a_nil, a_cons, i_of, i_rng, c_none, c_some, s_set, s_setLc, s_asg, s_par, s_stI, s_ex, s_ret, s_if, s_rai, s_pass, b_nil, b_cons, M.opt_some, R.bind_ok, getE_0, getE_s, List.map_cons, List.map_nil, List.cons_append, List.nil_append, List.length_cons, List.length_nil, List.replicate_succ, List.replicate_zero, Nat.reduceSub, Nat.reduceAdd, List.set_cons_zero, List.set_cons_succ, Option.map_some, BT.nm, wipeE, seqK_n, seqK_r, andK_t, andK_f, orK_f, orK_t, iteK_t, iteK_f, asgK_nm, asgK_t2, asgK_t3, endF_n, endF_r, slI_i, toBl_b, vw_i, vw_b, vw_t, vw_tI, vw_tT, vw_l, vw_s, vw_n, vw_ty, src_t, src_tI, src_tT, src_l, bin_add, bin_sub, neg_i, not_b, e_lst]
  have h1 : Wp (exS (runF fs k) (.for_ (.rng (.cons (.var 0) .nil)) (.nm 2) (.cons (.setLc 1 (.lc2 [3, 4] [4] (.of (.var 1)) (.nm 3) .none (.of (.tup (.cons (.neg (.cst (.int 1))) (.cons (.cst (.int 1)) .nil)))) (.nm 4) .none (.bin .Add (.var 3) (.tup (.cons (.var 4) .nil))))) .nil)) [some (.int n), some (.lst [.tup []]), none, none, none] S) (fun f S' => S' = S ∧ ∃ t, f = .nx [some (.int n), some (.lst ((rows n.toNat).map tI)), t, none, none]) := by
    rw [s_for]
    refine wp_for (xs := (List.range n.toNat).map fun i : Nat => D.int (i : Int)) (S1 := S) (by simp [e_var, e_cst, e_ty, e_gfn, e_bin, e_cmp, e_chn, e_neg, e_nt, e_one, e_and, e_or, e_ite, e_tup, e_lst, e_idx, e_slc, o_none, o_some, e_call, e_blt, e_isi, a_nil, a_cons, i_of, i_rng, c_none, c_some, s_set, s_setLc, s_asg, s_par, s_stI, s_ex, s_ret, s_if, s_rai, s_pass, b_nil, b_cons, M.opt_some, R.bind_ok, getE_0, getE_s, List.map_cons, List.map_nil, List.cons_append, List.nil_append, List.length_cons, List.length_nil, List.replicate_succ, List.replicate_zero, Nat.reduceSub, Nat.reduceAdd, List.set_cons_zero, List.set_cons_succ, Option.map_some, BT.nm, wipeE, seqK_n, seqK_r, andK_t, andK_f, orK_f, orK_t, iteK_t, iteK_f, asgK_nm, asgK_t2, asgK_t3, endF_n, endF_r, slI_i, toBl_b, vw_i, vw_b, vw_t, vw_tI, vw_tT, vw_l, vw_s, vw_n, vw_ty, src_t, src_tI, src_tT, src_l, bin_add, bin_sub, neg_i, not_b]; rw [rng_1 (by omega), rangeD_n]; simp) (fun i ρ S' => S' = S ∧ ∃ t, ρ = [some (.int n), some (.lst ((rows i).map tI)), t, none, none]) _ ⟨rfl, none, rfl⟩ (fun i d ρ S' hx hI => ?_) (fun ρ S' hI => ?_)
    · obtain ⟨rfl, t, rfl⟩ := hI
      refine ⟨_, rfl, ?_⟩
      have hi : i < n.toNat := by
        have := (List.getElem?_eq_some_iff.mp hx).1
        simpa using this
      simp only [e_var, e_cst, e_ty, e_gfn, e_bin, e_cmp, e_chn, e_neg, e_nt, e_one, e_and, e_or, e_ite, e_tup, e_lst, e_idx, e_slc, o_none, o_some, e_call, e_blt, e_isi, a_nil, a_cons, i_of, i_rng, c_none, c_some, s_set, s_setLc, s_asg, s_par, s_stI, s_ex, s_ret, s_if, s_rai, s_pass, b_nil, b_cons, M.opt_some, R.bind_ok, getE_0, getE_s, List.map_cons, List.map_nil, List.cons_append, List.nil_append, List.length_cons, List.length_nil, List.replicate_succ, List.replicate_zero, Nat.reduceSub, Nat.reduceAdd, List.set_cons_zero, List.set_cons_succ, Option.map_some, BT.nm, wipeE, seqK_n, seqK_r, andK_t, andK_f, orK_f, orK_t, iteK_t, iteK_f, asgK_nm, asgK_t2, asgK_t3, endF_n, endF_r, slI_i, toBl_b, vw_i, vw_b, vw_t, vw_tI, vw_tT, vw_l, vw_s, vw_n, vw_ty, src_t, src_tI, src_tT, src_l, bin_add, bin_sub, neg_i, not_b]
      rw [lc2E_eq (rows i) tI [(-1 : Int), 1] D.int (fun r x => tI (r ++ [x])) (by simp [e_var, e_cst, e_ty, e_gfn, e_bin, e_cmp, e_chn, e_neg, e_nt, e_one, e_and, e_or, e_ite, e_tup, e_lst, e_idx, e_slc, o_none, o_some, e_call, e_blt, e_isi, a_nil, a_cons, i_of, i_rng, c_none, c_some, s_set, s_setLc, s_asg, s_par, s_stI, s_ex, s_ret, s_if, s_rai, s_pass, b_nil, b_cons, M.opt_some, R.bind_ok, getE_0, getE_s, List.map_cons, List.map_nil, List.cons_append, List.nil_append, List.length_cons, List.length_nil, List.replicate_succ, List.replicate_zero, Nat.reduceSub, Nat.reduceAdd, List.set_cons_zero, List.set_cons_succ, Option.map_some, BT.nm, wipeE, seqK_n, seqK_r, andK_t, andK_f, orK_f, orK_t, iteK_t, iteK_f, asgK_nm, asgK_t2, asgK_t3, endF_n, endF_r, slI_i, toBl_b, vw_i, vw_b, vw_t, vw_tI, vw_tT, vw_l, vw_s, vw_n, vw_ty, src_t, src_tI, src_tT, src_l, bin_add, bin_sub, neg_i, not_b]) (fun r hr => ⟨_, rfl, by simp [e_var, e_cst, e_ty, e_gfn, e_bin, e_cmp, e_chn, e_neg, e_nt, e_one, e_and, e_or, e_ite, e_tup, e_lst, e_idx, e_slc, o_none, o_some, e_call, e_blt, e_isi, a_nil, a_cons, i_of, i_rng, c_none, c_some, s_set, s_setLc, s_asg, s_par, s_stI, s_ex, s_ret, s_if, s_rai, s_pass, b_nil, b_cons, M.opt_some, R.bind_ok, getE_0, getE_s, List.map_cons, List.map_nil, List.cons_append, List.nil_append, List.length_cons, List.length_nil, List.replicate_succ, List.replicate_zero, Nat.reduceSub, Nat.reduceAdd, List.set_cons_zero, List.set_cons_succ, Option.map_some, BT.nm, wipeE, seqK_n, seqK_r, andK_t, andK_f, orK_f, orK_t, iteK_t, iteK_f, asgK_nm, asgK_t2, asgK_t3, endF_n, endF_r, slI_i, toBl_b, vw_i, vw_b, vw_t, vw_tI, vw_tT, vw_l, vw_s, vw_n, vw_ty, src_t, src_tI, src_tT, src_l, bin_add, bin_sub, neg_i, not_b], fun x hx => ⟨_, rfl, by
        have hl := ((rows_ok i r).mp hr).1
        have hb : (r.map D.int).length + [D.int x].length ≤ line := by
          rw [List.length_map]
          show r.length + 1 ≤ 16777216
          omega
        simp only [e_var, e_cst, e_ty, e_gfn, e_bin, e_cmp, e_chn, e_neg, e_nt, e_one, e_and, e_or, e_ite, e_tup, e_lst, e_idx, e_slc, o_none, o_some, e_call, e_blt, e_isi, a_nil, a_cons, i_of, i_rng, c_none, c_some, s_set, s_setLc, s_asg, s_par, s_stI, s_ex, s_ret, s_if, s_rai, s_pass, b_nil, b_cons, M.opt_some, R.bind_ok, getE_0, getE_s, List.map_cons, List.map_nil, List.cons_append, List.nil_append, List.length_cons, List.length_nil, List.replicate_succ, List.replicate_zero, Nat.reduceSub, Nat.reduceAdd, List.set_cons_zero, List.set_cons_succ, Option.map_some, BT.nm, wipeE, seqK_n, seqK_r, andK_t, andK_f, orK_f, orK_t, iteK_t, iteK_f, asgK_nm, asgK_t2, asgK_t3, endF_n, endF_r, slI_i, toBl_b, vw_i, vw_b, vw_t, vw_tI, vw_tT, vw_l, vw_s, vw_n, vw_ty, src_t, src_tI, src_tT, src_l, bin_add, bin_sub, neg_i, not_b, e_tup, tI, vw_t]
        rw [bin_addT hb]
        simp [tI]⟩⟩) (by
          rw [rows_len]
          have : 2 ^ i ≤ 2 ^ 7 := Nat.pow_le_pow_right (by decide) (by omega)
          show 2 ^ i * 2 < 16777216
          omega)]
      simp only [e_var, e_cst, e_ty, e_gfn, e_bin, e_cmp, e_chn, e_neg, e_nt, e_one, e_and, e_or, e_ite, e_tup, e_lst, e_idx, e_slc, o_none, o_some, e_call, e_blt, e_isi, a_nil, a_cons, i_of, i_rng, c_none, c_some, s_set, s_setLc, s_asg, s_par, s_stI, s_ex, s_ret, s_if, s_rai, s_pass, b_nil, b_cons, M.opt_some, R.bind_ok, getE_0, getE_s, List.map_cons, List.map_nil, List.cons_append, List.nil_append, List.length_cons, List.length_nil, List.replicate_succ, List.replicate_zero, Nat.reduceSub, Nat.reduceAdd, List.set_cons_zero, List.set_cons_succ, Option.map_some, BT.nm, wipeE, seqK_n, seqK_r, andK_t, andK_f, orK_f, orK_t, iteK_t, iteK_f, asgK_nm, asgK_t2, asgK_t3, endF_n, endF_r, slI_i, toBl_b, vw_i, vw_b, vw_t, vw_tI, vw_tT, vw_l, vw_s, vw_n, vw_ty, src_t, src_tI, src_tT, src_l, bin_add, bin_sub, neg_i, not_b]
      refine Wp.ok ⟨rfl, some d, ?_⟩
      have e : ((rows i).flatMap fun r => ([-1, 1] : List Int).map fun x => tI (r ++ [x])) = (rows (i + 1)).map tI := by
        show _ = ((rows i).flatMap fun r => [r ++ [-1], r ++ [1]]).map tI
        rw [List.map_flatMap]
        rfl
      rw [← e]
      rfl
    · rw [List.length_map, List.length_range] at hI
      obtain ⟨h1, t, rfl⟩ := hI
      exact ⟨h1, t, rfl⟩
  obtain ⟨f, S', e, rfl, t, rfl⟩ := h1.get
  rw [e]
  simp [e_var, e_cst, e_ty, e_gfn, e_bin, e_cmp, e_chn, e_neg, e_nt, e_one, e_and, e_or, e_ite, e_tup, e_lst, e_idx, e_slc, o_none, o_some, e_call, e_blt, e_isi, a_nil, a_cons, i_of, i_rng, c_none, c_some, s_set, s_setLc, s_asg, s_par, s_stI, s_ex, s_ret, s_if, s_rai, s_pass, b_nil, b_cons, M.opt_some, R.bind_ok, getE_0, getE_s, List.map_cons, List.map_nil, List.cons_append, List.nil_append, List.length_cons, List.length_nil, List.replicate_succ, List.replicate_zero, Nat.reduceSub, Nat.reduceAdd, List.set_cons_zero, List.set_cons_succ, Option.map_some, BT.nm, wipeE, seqK_n, seqK_r, andK_t, andK_f, orK_f, orK_t, iteK_t, iteK_f, asgK_nm, asgK_t2, asgK_t3, endF_n, endF_r, slI_i, toBl_b, vw_i, vw_b, vw_t, vw_tI, vw_tT, vw_l, vw_s, vw_n, vw_ty, src_t, src_tI, src_tT, src_l, bin_add, bin_sub, neg_i, not_b]
theorem r_least (h : HasC fs) (F : FamOk n ss) : runF fs (k + 3) "found_least" [fam n ss] S = .ok (.int (least n.toNat ss)) S := by
  rw [rf_eq h.flst]
  have := F.lo
  simp [b_found_least, e_var, e_cst, e_ty, e_gfn, e_bin, e_cmp, e_chn, e_neg, e_nt, e_one, e_and, e_or, e_ite, e_tup, e_lst, e_idx, e_slc, o_none, o_some, e_call, e_blt, e_isi, a_nil, a_cons, i_of, i_rng, c_none, c_some, s_set, s_setLc, s_asg, s_par, s_stI, s_ex, s_ret, s_if, s_rai, s_pass, b_nil, b_cons, M.opt_some, R.bind_ok, getE_0, getE_s, List.map_cons, List.map_nil, List.cons_append, List.nil_append, List.length_cons, List.length_nil, List.replicate_succ, List.replicate_zero, Nat.reduceSub, Nat.reduceAdd, List.set_cons_zero, List.set_cons_succ, Option.map_some, BT.nm, wipeE, seqK_n, seqK_r, andK_t, andK_f, orK_f, orK_t, iteK_t, iteK_f, asgK_nm, asgK_t2, asgK_t3, endF_n, endF_r, slI_i, toBl_b, vw_i, vw_b, vw_t, vw_tI, vw_tT, vw_l, vw_s, vw_n, vw_ty, src_t, src_tI, src_tT, src_l, bin_add, bin_sub, neg_i, not_b]
  rw [lcE_map (rows n.toNat) tI (fun c => D.int (unev c ss)) (by simp [e_var, e_cst, e_ty, e_gfn, e_bin, e_cmp, e_chn, e_neg, e_nt, e_one, e_and, e_or, e_ite, e_tup, e_lst, e_idx, e_slc, o_none, o_some, e_call, e_blt, e_isi, a_nil, a_cons, i_of, i_rng, c_none, c_some, s_set, s_setLc, s_asg, s_par, s_stI, s_ex, s_ret, s_if, s_rai, s_pass, b_nil, b_cons, M.opt_some, R.bind_ok, getE_0, getE_s, List.map_cons, List.map_nil, List.cons_append, List.nil_append, List.length_cons, List.length_nil, List.replicate_succ, List.replicate_zero, Nat.reduceSub, Nat.reduceAdd, List.set_cons_zero, List.set_cons_succ, Option.map_some, BT.nm, wipeE, seqK_n, seqK_r, andK_t, andK_f, orK_f, orK_t, iteK_t, iteK_f, asgK_nm, asgK_t2, asgK_t3, endF_n, endF_r, slI_i, toBl_b, vw_i, vw_b, vw_t, vw_tI, vw_tT, vw_l, vw_s, vw_n, vw_ty, src_t, src_tI, src_tT, src_l, bin_add, bin_sub, neg_i, not_b, fam, r_rows h.allc (n := n) (by omega) F.hi]) (fun c hc => ⟨_, rfl, by
    have hl := ((rows_ok _ c).mp hc).1
    simp [e_var, e_cst, e_ty, e_gfn, e_bin, e_cmp, e_chn, e_neg, e_nt, e_one, e_and, e_or, e_ite, e_tup, e_lst, e_idx, e_slc, o_none, o_some, e_call, e_blt, e_isi, a_nil, a_cons, i_of, i_rng, c_none, c_some, s_set, s_setLc, s_asg, s_par, s_stI, s_ex, s_ret, s_if, s_rai, s_pass, b_nil, b_cons, M.opt_some, R.bind_ok, getE_0, getE_s, List.map_cons, List.map_nil, List.cons_append, List.nil_append, List.length_cons, List.length_nil, List.replicate_succ, List.replicate_zero, Nat.reduceSub, Nat.reduceAdd, List.set_cons_zero, List.set_cons_succ, Option.map_some, BT.nm, wipeE, seqK_n, seqK_r, andK_t, andK_f, orK_f, orK_t, iteK_t, iteK_f, asgK_nm, asgK_t2, asgK_t3, endF_n, endF_r, slI_i, toBl_b, vw_i, vw_b, vw_t, vw_tI, vw_tT, vw_l, vw_s, vw_n, vw_ty, src_t, src_tI, src_tT, src_l, bin_add, bin_sub, neg_i, not_b, r_uneven rfl h.sums h.unev F (c := c) (by omega)]⟩)]
  simp only [R.bind_ok]
  rw [min_m _ _ (rows_ne _)]
  simp [e_var, e_cst, e_ty, e_gfn, e_bin, e_cmp, e_chn, e_neg, e_nt, e_one, e_and, e_or, e_ite, e_tup, e_lst, e_idx, e_slc, o_none, o_some, e_call, e_blt, e_isi, a_nil, a_cons, i_of, i_rng, c_none, c_some, s_set, s_setLc, s_asg, s_par, s_stI, s_ex, s_ret, s_if, s_rai, s_pass, b_nil, b_cons, M.opt_some, R.bind_ok, getE_0, getE_s, List.map_cons, List.map_nil, List.cons_append, List.nil_append, List.length_cons, List.length_nil, List.replicate_succ, List.replicate_zero, Nat.reduceSub, Nat.reduceAdd, List.set_cons_zero, List.set_cons_succ, Option.map_some, BT.nm, wipeE, seqK_n, seqK_r, andK_t, andK_f, orK_f, orK_t, iteK_t, iteK_f, asgK_nm, asgK_t2, asgK_t3, endF_n, endF_r, slI_i, toBl_b, vw_i, vw_b, vw_t, vw_tI, vw_tT, vw_l, vw_s, vw_n, vw_ty, src_t, src_tI, src_tT, src_l, bin_add, bin_sub, neg_i, not_b, least]
end
end LC

end
section
set_option maxHeartbeats 4000000
/-! P4: draws, drawn families. -/
namespace LC
open PySem PySem.Spec PyProof.Rows L2
def lI (xs : List Int) : D := .lst (xs.map .int)
/-- the town: a counter of at most b, as many numbers as the script has -/
def Tn (ns : List Int) (T : Store) (b : Nat) (S : Store) : Prop := ∃ (c : Int) (ys : List Int), S = .lst (.int c :: ys.map .int) :: T ∧ 0 ≤ c ∧ c ≤ b ∧ ys.length = ns.length
theorem Tn.mono {ns : List Int} {T : Store} {b b' : Nat} {S : Store} (h : Tn ns T b S) (hb : b ≤ b') : Tn ns T b' S := by
  obtain ⟨c, ys, e, h1, h2, h3⟩ := h
  exact ⟨c, ys, e, h1, by omega, h3⟩
@[simp] theorem vw_c0 (xs : List D) (T : Store) : vw (.lst xs :: T) (.cell 0) = .lst xs := rfl
theorem st_c0 {xs : List D} {T : Store} {i : Int} {j : Nat} {d : D} (h : i = (j : Int)) (hj : j < xs.length) : storeAt (.cell 0) (.int i) d (.lst xs :: T) = .ok () (.lst (xs.set j d) :: T) := by
  subst h
  show (match ixN xs.length (j : Int) with
    | some j => R.ok () (Cell.lst (xs.set j d) :: T)
    | none => R.bad) = _
  unfold ixN
  rw [if_pos (Int.natCast_nonneg j), if_pos (Int.ofNat_lt.mpr hj)]
  simp
theorem log_le {a : Int} {b : Nat} (h : a.natAbs < 2 ^ b) (hb : 0 < b) : a.natAbs.log2 < b := by
  by_cases h0 : a.natAbs = 0
  · rw [h0]; simpa using hb
  · exact (Nat.log2_lt h0).mpr h
theorem fmod_rng {a b : Int} (hb : 0 < b) : 0 ≤ a.fmod b ∧ a.fmod b < b := ⟨Int.fmod_nonneg_of_pos a hb, Int.fmod_lt_of_pos a hb⟩
theorem lI_0 (ns : List Int) : cmpB .Eq (.lst (ns.map D.int)) (.lst []) = some (.bl (decide (ns = []))) := ceq_l0 ns
section
variable {fs : Str → Option Fn} {k : Nat} {S T : Store} {ns : List Int} {b : Nat}
theorem r_draw (h : fs "_law_draw" = some ⟨3, 6, b__law_draw⟩) {lim : Int} (hl : 1 ≤ lim ∧ lim ≤ 1000) (hb : b ≤ 1000000) (ht : Tn ns T b S) :
    Wp (runF fs (k + 1) "_law_draw" [lI ns, .cell 0, .int lim] S) (fun d S' => ∃ v : Int, d = .int v ∧ 0 ≤ v ∧ v < lim ∧ Tn ns T (b + 1) S') := by
  obtain ⟨c, ys, rfl, h0, hcb, hy⟩ := ht
  rw [rf_eq h]
  have a0 : (.int c :: ys.map D.int : List D)[0]? = some (.int c) := rfl
  simp only [b__law_draw, e_var, e_cst, e_ty, e_gfn, e_bin, e_cmp, e_chn, e_neg, e_nt, e_one, e_and, e_or, e_ite, e_tup, e_lst, e_idx, e_slc, o_none, o_some, e_call, e_blt, e_isi, a_nil, a_cons, i_of, i_rng, c_none, c_some, s_set, s_setLc, s_asg, s_par, s_stI, s_ex, s_ret, s_if, s_rai, s_pass, b_nil, b_cons, M.opt_some, R.bind_ok, getE_0, getE_s, List.map_cons, List.map_nil, List.cons_append, List.nil_append, List.length_cons, List.length_nil, List.replicate_succ, List.replicate_zero, Nat.reduceSub, Nat.reduceAdd, List.set_cons_zero, List.set_cons_succ, Option.map_some, BT.nm, wipeE, seqK_n, seqK_r, andK_t, andK_f, orK_f, orK_t, iteK_t, iteK_f, asgK_nm, asgK_t2, asgK_t3, endF_n, endF_r, slI_i, toBl_b, vw_i, vw_b, vw_t, vw_tI, vw_tT, vw_l, vw_s, vw_n, vw_ty, src_t, src_tI, src_tT, src_l, bin_add, bin_sub, neg_i, not_b, lI, vw_c0, idx_l, atI_0]
  rw [st_c0 (i := 0) (j := 0) rfl (by simp)]
  simp only [e_var, e_cst, e_ty, e_gfn, e_bin, e_cmp, e_chn, e_neg, e_nt, e_one, e_and, e_or, e_ite, e_tup, e_lst, e_idx, e_slc, o_none, o_some, e_call, e_blt, e_isi, a_nil, a_cons, i_of, i_rng, c_none, c_some, s_set, s_setLc, s_asg, s_par, s_stI, s_ex, s_ret, s_if, s_rai, s_pass, b_nil, b_cons, M.opt_some, R.bind_ok, getE_0, getE_s, List.map_cons, List.map_nil, List.cons_append, List.nil_append, List.length_cons, List.length_nil, List.replicate_succ, List.replicate_zero, Nat.reduceSub, Nat.reduceAdd, List.set_cons_zero, List.set_cons_succ, Option.map_some, BT.nm, wipeE, seqK_n, seqK_r, andK_t, andK_f, orK_f, orK_t, iteK_t, iteK_f, asgK_nm, asgK_t2, asgK_t3, endF_n, endF_r, slI_i, toBl_b, vw_i, vw_b, vw_t, vw_tI, vw_tT, vw_l, vw_s, vw_n, vw_ty, src_t, src_tI, src_tT, src_l, bin_add, bin_sub, neg_i, not_b, vw_c0, idx_l, atI_0, e_lst, lI_0]
  have c1 : (c + 1).natAbs.log2 < 1000 := log_le (Nat.lt_of_le_of_lt (m := 1000001) (by omega) (by decide +kernel)) (by decide)
  have hb1 : 0 ≤ c + 1 ∧ c + 1 ≤ ((b + 1 : Nat) : Int) := by omega
  by_cases hn : ns = []
  · simp only [decide_eq_true hn, iteK_t, e_var, e_cst, e_ty, e_gfn, e_bin, e_cmp, e_chn, e_neg, e_nt, e_one, e_and, e_or, e_ite, e_tup, e_lst, e_idx, e_slc, o_none, o_some, e_call, e_blt, e_isi, a_nil, a_cons, i_of, i_rng, c_none, c_some, s_set, s_setLc, s_asg, s_par, s_stI, s_ex, s_ret, s_if, s_rai, s_pass, b_nil, b_cons, M.opt_some, R.bind_ok, getE_0, getE_s, List.map_cons, List.map_nil, List.cons_append, List.nil_append, List.length_cons, List.length_nil, List.replicate_succ, List.replicate_zero, Nat.reduceSub, Nat.reduceAdd, List.set_cons_zero, List.set_cons_succ, Option.map_some, BT.nm, wipeE, seqK_n, seqK_r, andK_t, andK_f, orK_f, orK_t, iteK_t, iteK_f, asgK_nm, asgK_t2, asgK_t3, endF_n, endF_r, slI_i, toBl_b, vw_i, vw_b, vw_t, vw_tI, vw_tT, vw_l, vw_s, vw_n, vw_ty, src_t, src_tI, src_tT, src_l, bin_add, bin_sub, neg_i, not_b, vw_c0, idx_l, atI_0]
    have c2 : ((c + 1) * (c + 1)).natAbs.log2 < 1000 := log_le (by
      rw [Int.natAbs_mul]
      have : (c + 1).natAbs ≤ 1000001 := by omega
      exact Nat.lt_of_le_of_lt (Nat.mul_le_mul this this) (by decide +kernel)) (by decide)
    have c3 : (7 : Int).natAbs.log2 < 1000 := by decide
    rw [bin_mul (by omega)]
    simp only [e_var, e_cst, e_ty, e_gfn, e_bin, e_cmp, e_chn, e_neg, e_nt, e_one, e_and, e_or, e_ite, e_tup, e_lst, e_idx, e_slc, o_none, o_some, e_call, e_blt, e_isi, a_nil, a_cons, i_of, i_rng, c_none, c_some, s_set, s_setLc, s_asg, s_par, s_stI, s_ex, s_ret, s_if, s_rai, s_pass, b_nil, b_cons, M.opt_some, R.bind_ok, getE_0, getE_s, List.map_cons, List.map_nil, List.cons_append, List.nil_append, List.length_cons, List.length_nil, List.replicate_succ, List.replicate_zero, Nat.reduceSub, Nat.reduceAdd, List.set_cons_zero, List.set_cons_succ, Option.map_some, BT.nm, wipeE, seqK_n, seqK_r, andK_t, andK_f, orK_f, orK_t, iteK_t, iteK_f, asgK_nm, asgK_t2, asgK_t3, endF_n, endF_r, slI_i, toBl_b, vw_i, vw_b, vw_t, vw_tI, vw_tT, vw_l, vw_s, vw_n, vw_ty, src_t, src_tI, src_tT, src_l, bin_add, bin_sub, neg_i, not_b]
    rw [bin_mul (by omega)]
    simp only [e_var, e_cst, e_ty, e_gfn, e_bin, e_cmp, e_chn, e_neg, e_nt, e_one, e_and, e_or, e_ite, e_tup, e_lst, e_idx, e_slc, o_none, o_some, e_call, e_blt, e_isi, a_nil, a_cons, i_of, i_rng, c_none, c_some, s_set, s_setLc, s_asg, s_par, s_stI, s_ex, s_ret, s_if, s_rai, s_pass, b_nil, b_cons, M.opt_some, R.bind_ok, getE_0, getE_s, List.map_cons, List.map_nil, List.cons_append, List.nil_append, List.length_cons, List.length_nil, List.replicate_succ, List.replicate_zero, Nat.reduceSub, Nat.reduceAdd, List.set_cons_zero, List.set_cons_succ, Option.map_some, BT.nm, wipeE, seqK_n, seqK_r, andK_t, andK_f, orK_f, orK_t, iteK_t, iteK_f, asgK_nm, asgK_t2, asgK_t3, endF_n, endF_r, slI_i, toBl_b, vw_i, vw_b, vw_t, vw_tI, vw_tT, vw_l, vw_s, vw_n, vw_ty, src_t, src_tI, src_tT, src_l, bin_add, bin_sub, neg_i, not_b]
    rw [bin_div (by decide)]
    simp only [e_var, e_cst, e_ty, e_gfn, e_bin, e_cmp, e_chn, e_neg, e_nt, e_one, e_and, e_or, e_ite, e_tup, e_lst, e_idx, e_slc, o_none, o_some, e_call, e_blt, e_isi, a_nil, a_cons, i_of, i_rng, c_none, c_some, s_set, s_setLc, s_asg, s_par, s_stI, s_ex, s_ret, s_if, s_rai, s_pass, b_nil, b_cons, M.opt_some, R.bind_ok, getE_0, getE_s, List.map_cons, List.map_nil, List.cons_append, List.nil_append, List.length_cons, List.length_nil, List.replicate_succ, List.replicate_zero, Nat.reduceSub, Nat.reduceAdd, List.set_cons_zero, List.set_cons_succ, Option.map_some, BT.nm, wipeE, seqK_n, seqK_r, andK_t, andK_f, orK_f, orK_t, iteK_t, iteK_f, asgK_nm, asgK_t2, asgK_t3, endF_n, endF_r, slI_i, toBl_b, vw_i, vw_b, vw_t, vw_tI, vw_tT, vw_l, vw_s, vw_n, vw_ty, src_t, src_tI, src_tT, src_l, bin_add, bin_sub, neg_i, not_b]
    rw [bin_mod (by omega)]
    simp only [e_var, e_cst, e_ty, e_gfn, e_bin, e_cmp, e_chn, e_neg, e_nt, e_one, e_and, e_or, e_ite, e_tup, e_lst, e_idx, e_slc, o_none, o_some, e_call, e_blt, e_isi, a_nil, a_cons, i_of, i_rng, c_none, c_some, s_set, s_setLc, s_asg, s_par, s_stI, s_ex, s_ret, s_if, s_rai, s_pass, b_nil, b_cons, M.opt_some, R.bind_ok, getE_0, getE_s, List.map_cons, List.map_nil, List.cons_append, List.nil_append, List.length_cons, List.length_nil, List.replicate_succ, List.replicate_zero, Nat.reduceSub, Nat.reduceAdd, List.set_cons_zero, List.set_cons_succ, Option.map_some, BT.nm, wipeE, seqK_n, seqK_r, andK_t, andK_f, orK_f, orK_t, iteK_t, iteK_f, asgK_nm, asgK_t2, asgK_t3, endF_n, endF_r, slI_i, toBl_b, vw_i, vw_b, vw_t, vw_tI, vw_tT, vw_l, vw_s, vw_n, vw_ty, src_t, src_tI, src_tT, src_l, bin_add, bin_sub, neg_i, not_b]
    exact ⟨_, rfl, (fmod_rng (by omega)).1, (fmod_rng (by omega)).2, c + 1, ys, rfl, hb1.1, hb1.2, hy⟩
  · simp only [decide_eq_false hn, iteK_f, e_var, e_cst, e_ty, e_gfn, e_bin, e_cmp, e_chn, e_neg, e_nt, e_one, e_and, e_or, e_ite, e_tup, e_lst, e_idx, e_slc, o_none, o_some, e_call, e_blt, e_isi, a_nil, a_cons, i_of, i_rng, c_none, c_some, s_set, s_setLc, s_asg, s_par, s_stI, s_ex, s_ret, s_if, s_rai, s_pass, b_nil, b_cons, M.opt_some, R.bind_ok, getE_0, getE_s, List.map_cons, List.map_nil, List.cons_append, List.nil_append, List.length_cons, List.length_nil, List.replicate_succ, List.replicate_zero, Nat.reduceSub, Nat.reduceAdd, List.set_cons_zero, List.set_cons_succ, Option.map_some, BT.nm, wipeE, seqK_n, seqK_r, andK_t, andK_f, orK_f, orK_t, iteK_t, iteK_f, asgK_nm, asgK_t2, asgK_t3, endF_n, endF_r, slI_i, toBl_b, vw_i, vw_b, vw_t, vw_tI, vw_tT, vw_l, vw_s, vw_n, vw_ty, src_t, src_tI, src_tT, src_l, bin_add, bin_sub, neg_i, not_b, vw_c0, idx_l, atI_0]
    have hlen : 0 < ns.length := Nat.pos_of_ne_zero fun z => hn (List.length_eq_zero_iff.mp z)
    rw [show fB .len (.lst (D.int (c + 1) :: ys.map D.int) :: T) [.lst (ns.map D.int)] = some (.int ns.length) by rw [len_l, List.length_map]]
    simp only [e_var, e_cst, e_ty, e_gfn, e_bin, e_cmp, e_chn, e_neg, e_nt, e_one, e_and, e_or, e_ite, e_tup, e_lst, e_idx, e_slc, o_none, o_some, e_call, e_blt, e_isi, a_nil, a_cons, i_of, i_rng, c_none, c_some, s_set, s_setLc, s_asg, s_par, s_stI, s_ex, s_ret, s_if, s_rai, s_pass, b_nil, b_cons, M.opt_some, R.bind_ok, getE_0, getE_s, List.map_cons, List.map_nil, List.cons_append, List.nil_append, List.length_cons, List.length_nil, List.replicate_succ, List.replicate_zero, Nat.reduceSub, Nat.reduceAdd, List.set_cons_zero, List.set_cons_succ, Option.map_some, BT.nm, wipeE, seqK_n, seqK_r, andK_t, andK_f, orK_f, orK_t, iteK_t, iteK_f, asgK_nm, asgK_t2, asgK_t3, endF_n, endF_r, slI_i, toBl_b, vw_i, vw_b, vw_t, vw_tI, vw_tT, vw_l, vw_s, vw_n, vw_ty, src_t, src_tI, src_tT, src_l, bin_add, bin_sub, neg_i, not_b, vw_c0, idx_l, atI_0]
    rw [bin_mod (by omega)]
    simp only [e_var, e_cst, e_ty, e_gfn, e_bin, e_cmp, e_chn, e_neg, e_nt, e_one, e_and, e_or, e_ite, e_tup, e_lst, e_idx, e_slc, o_none, o_some, e_call, e_blt, e_isi, a_nil, a_cons, i_of, i_rng, c_none, c_some, s_set, s_setLc, s_asg, s_par, s_stI, s_ex, s_ret, s_if, s_rai, s_pass, b_nil, b_cons, M.opt_some, R.bind_ok, getE_0, getE_s, List.map_cons, List.map_nil, List.cons_append, List.nil_append, List.length_cons, List.length_nil, List.replicate_succ, List.replicate_zero, Nat.reduceSub, Nat.reduceAdd, List.set_cons_zero, List.set_cons_succ, Option.map_some, BT.nm, wipeE, seqK_n, seqK_r, andK_t, andK_f, orK_f, orK_t, iteK_t, iteK_f, asgK_nm, asgK_t2, asgK_t3, endF_n, endF_r, slI_i, toBl_b, vw_i, vw_b, vw_t, vw_tI, vw_tT, vw_l, vw_s, vw_n, vw_ty, src_t, src_tI, src_tT, src_l, bin_add, bin_sub, neg_i, not_b, vw_c0, idx_l, atI_0]
    obtain ⟨p, hp, hpl⟩ : ∃ p : Nat, (c + 1).fmod (ns.length : Int) = (p : Int) ∧ p < ns.length := by
      have := fmod_rng (a := c + 1) (b := (ns.length : Int)) (by omega)
      exact ⟨((c + 1).fmod (ns.length : Int)).toNat, by omega, by omega⟩
    rw [hp]
    have a1 : atI (D.int (c + 1) :: ys.map D.int) (1 + (p : Int)) = some (.int (ys[p]'(by omega))) := atI_of (j := p + 1) (by omega) (by rw [List.getElem?_cons_succ, List.getElem?_map, List.getElem?_eq_getElem (by omega)]; rfl)
    have a2 : atI (ns.map D.int) (p : Int) = some (.int ns[p]) := atI_of (j := p) rfl (by rw [List.getElem?_map, List.getElem?_eq_getElem hpl]; rfl)
    rw [a1]
    simp only [e_var, e_cst, e_ty, e_gfn, e_bin, e_cmp, e_chn, e_neg, e_nt, e_one, e_and, e_or, e_ite, e_tup, e_lst, e_idx, e_slc, o_none, o_some, e_call, e_blt, e_isi, a_nil, a_cons, i_of, i_rng, c_none, c_some, s_set, s_setLc, s_asg, s_par, s_stI, s_ex, s_ret, s_if, s_rai, s_pass, b_nil, b_cons, M.opt_some, R.bind_ok, getE_0, getE_s, List.map_cons, List.map_nil, List.cons_append, List.nil_append, List.length_cons, List.length_nil, List.replicate_succ, List.replicate_zero, Nat.reduceSub, Nat.reduceAdd, List.set_cons_zero, List.set_cons_succ, Option.map_some, BT.nm, wipeE, seqK_n, seqK_r, andK_t, andK_f, orK_f, orK_t, iteK_t, iteK_f, asgK_nm, asgK_t2, asgK_t3, endF_n, endF_r, slI_i, toBl_b, vw_i, vw_b, vw_t, vw_tI, vw_tT, vw_l, vw_s, vw_n, vw_ty, src_t, src_tI, src_tT, src_l, bin_add, bin_sub, neg_i, not_b, vw_c0, idx_l, atI_0]
    rw [a2]
    simp only [e_var, e_cst, e_ty, e_gfn, e_bin, e_cmp, e_chn, e_neg, e_nt, e_one, e_and, e_or, e_ite, e_tup, e_lst, e_idx, e_slc, o_none, o_some, e_call, e_blt, e_isi, a_nil, a_cons, i_of, i_rng, c_none, c_some, s_set, s_setLc, s_asg, s_par, s_stI, s_ex, s_ret, s_if, s_rai, s_pass, b_nil, b_cons, M.opt_some, R.bind_ok, getE_0, getE_s, List.map_cons, List.map_nil, List.cons_append, List.nil_append, List.length_cons, List.length_nil, List.replicate_succ, List.replicate_zero, Nat.reduceSub, Nat.reduceAdd, List.set_cons_zero, List.set_cons_succ, Option.map_some, BT.nm, wipeE, seqK_n, seqK_r, andK_t, andK_f, orK_f, orK_t, iteK_t, iteK_f, asgK_nm, asgK_t2, asgK_t3, endF_n, endF_r, slI_i, toBl_b, vw_i, vw_b, vw_t, vw_tI, vw_tT, vw_l, vw_s, vw_n, vw_ty, src_t, src_tI, src_tT, src_l, bin_add, bin_sub, neg_i, not_b, vw_c0, idx_l, atI_0]
    rw [bin_pow (by decide)]
    simp only [e_var, e_cst, e_ty, e_gfn, e_bin, e_cmp, e_chn, e_neg, e_nt, e_one, e_and, e_or, e_ite, e_tup, e_lst, e_idx, e_slc, o_none, o_some, e_call, e_blt, e_isi, a_nil, a_cons, i_of, i_rng, c_none, c_some, s_set, s_setLc, s_asg, s_par, s_stI, s_ex, s_ret, s_if, s_rai, s_pass, b_nil, b_cons, M.opt_some, R.bind_ok, getE_0, getE_s, List.map_cons, List.map_nil, List.cons_append, List.nil_append, List.length_cons, List.length_nil, List.replicate_succ, List.replicate_zero, Nat.reduceSub, Nat.reduceAdd, List.set_cons_zero, List.set_cons_succ, Option.map_some, BT.nm, wipeE, seqK_n, seqK_r, andK_t, andK_f, orK_f, orK_t, iteK_t, iteK_f, asgK_nm, asgK_t2, asgK_t3, endF_n, endF_r, slI_i, toBl_b, vw_i, vw_b, vw_t, vw_tI, vw_tT, vw_l, vw_s, vw_n, vw_ty, src_t, src_tI, src_tT, src_l, bin_add, bin_sub, neg_i, not_b, vw_c0, idx_l, atI_0, cmp_ge]
    generalize hz : ys[p]'(by omega) = z
    generalize ns[p] = w at a2 ⊢
    have a2' : atI (ns.map D.int) (p : Int) = some (.int w) := a2
    clear a2
    by_cases hw : (10 : Int) ^ (18 : Int).toNat ≤ w
    · simp only [decide_eq_true hw, e_var, e_cst, e_ty, e_gfn, e_bin, e_cmp, e_chn, e_neg, e_nt, e_one, e_and, e_or, e_ite, e_tup, e_lst, e_idx, e_slc, o_none, o_some, e_call, e_blt, e_isi, a_nil, a_cons, i_of, i_rng, c_none, c_some, s_set, s_setLc, s_asg, s_par, s_stI, s_ex, s_ret, s_if, s_rai, s_pass, b_nil, b_cons, M.opt_some, R.bind_ok, getE_0, getE_s, List.map_cons, List.map_nil, List.cons_append, List.nil_append, List.length_cons, List.length_nil, List.replicate_succ, List.replicate_zero, Nat.reduceSub, Nat.reduceAdd, List.set_cons_zero, List.set_cons_succ, Option.map_some, BT.nm, wipeE, seqK_n, seqK_r, andK_t, andK_f, orK_f, orK_t, iteK_t, iteK_f, asgK_nm, asgK_t2, asgK_t3, endF_n, endF_r, slI_i, toBl_b, vw_i, vw_b, vw_t, vw_tI, vw_tT, vw_l, vw_s, vw_n, vw_ty, src_t, src_tI, src_tT, src_l, bin_add, bin_sub, neg_i, not_b, cmp_gt]
      by_cases hz0 : 0 < z
      · simp only [decide_eq_true hz0, e_var, e_cst, e_ty, e_gfn, e_bin, e_cmp, e_chn, e_neg, e_nt, e_one, e_and, e_or, e_ite, e_tup, e_lst, e_idx, e_slc, o_none, o_some, e_call, e_blt, e_isi, a_nil, a_cons, i_of, i_rng, c_none, c_some, s_set, s_setLc, s_asg, s_par, s_stI, s_ex, s_ret, s_if, s_rai, s_pass, b_nil, b_cons, M.opt_some, R.bind_ok, getE_0, getE_s, List.map_cons, List.map_nil, List.cons_append, List.nil_append, List.length_cons, List.length_nil, List.replicate_succ, List.replicate_zero, Nat.reduceSub, Nat.reduceAdd, List.set_cons_zero, List.set_cons_succ, Option.map_some, BT.nm, wipeE, seqK_n, seqK_r, andK_t, andK_f, orK_f, orK_t, iteK_t, iteK_f, asgK_nm, asgK_t2, asgK_t3, endF_n, endF_r, slI_i, toBl_b, vw_i, vw_b, vw_t, vw_tI, vw_tT, vw_l, vw_s, vw_n, vw_ty, src_t, src_tI, src_tT, src_l, bin_add, bin_sub, neg_i, not_b]
        rw [bin_div (by omega)]
        simp only [e_var, e_cst, e_ty, e_gfn, e_bin, e_cmp, e_chn, e_neg, e_nt, e_one, e_and, e_or, e_ite, e_tup, e_lst, e_idx, e_slc, o_none, o_some, e_call, e_blt, e_isi, a_nil, a_cons, i_of, i_rng, c_none, c_some, s_set, s_setLc, s_asg, s_par, s_stI, s_ex, s_ret, s_if, s_rai, s_pass, b_nil, b_cons, M.opt_some, R.bind_ok, getE_0, getE_s, List.map_cons, List.map_nil, List.cons_append, List.nil_append, List.length_cons, List.length_nil, List.replicate_succ, List.replicate_zero, Nat.reduceSub, Nat.reduceAdd, List.set_cons_zero, List.set_cons_succ, Option.map_some, BT.nm, wipeE, seqK_n, seqK_r, andK_t, andK_f, orK_f, orK_t, iteK_t, iteK_f, asgK_nm, asgK_t2, asgK_t3, endF_n, endF_r, slI_i, toBl_b, vw_i, vw_b, vw_t, vw_tI, vw_tT, vw_l, vw_s, vw_n, vw_ty, src_t, src_tI, src_tT, src_l, bin_add, bin_sub, neg_i, not_b, vw_c0, idx_l, atI_0]
        rw [st_c0 (j := p + 1) (by omega) (by simp; omega)]
        simp only [e_var, e_cst, e_ty, e_gfn, e_bin, e_cmp, e_chn, e_neg, e_nt, e_one, e_and, e_or, e_ite, e_tup, e_lst, e_idx, e_slc, o_none, o_some, e_call, e_blt, e_isi, a_nil, a_cons, i_of, i_rng, c_none, c_some, s_set, s_setLc, s_asg, s_par, s_stI, s_ex, s_ret, s_if, s_rai, s_pass, b_nil, b_cons, M.opt_some, R.bind_ok, getE_0, getE_s, List.map_cons, List.map_nil, List.cons_append, List.nil_append, List.length_cons, List.length_nil, List.replicate_succ, List.replicate_zero, Nat.reduceSub, Nat.reduceAdd, List.set_cons_zero, List.set_cons_succ, Option.map_some, BT.nm, wipeE, seqK_n, seqK_r, andK_t, andK_f, orK_f, orK_t, iteK_t, iteK_f, asgK_nm, asgK_t2, asgK_t3, endF_n, endF_r, slI_i, toBl_b, vw_i, vw_b, vw_t, vw_tI, vw_tT, vw_l, vw_s, vw_n, vw_ty, src_t, src_tI, src_tT, src_l, bin_add, bin_sub, neg_i, not_b, vw_c0, idx_l, atI_0]
        rw [bin_mod (by omega)]
        simp only [e_var, e_cst, e_ty, e_gfn, e_bin, e_cmp, e_chn, e_neg, e_nt, e_one, e_and, e_or, e_ite, e_tup, e_lst, e_idx, e_slc, o_none, o_some, e_call, e_blt, e_isi, a_nil, a_cons, i_of, i_rng, c_none, c_some, s_set, s_setLc, s_asg, s_par, s_stI, s_ex, s_ret, s_if, s_rai, s_pass, b_nil, b_cons, M.opt_some, R.bind_ok, getE_0, getE_s, List.map_cons, List.map_nil, List.cons_append, List.nil_append, List.length_cons, List.length_nil, List.replicate_succ, List.replicate_zero, Nat.reduceSub, Nat.reduceAdd, List.set_cons_zero, List.set_cons_succ, Option.map_some, BT.nm, wipeE, seqK_n, seqK_r, andK_t, andK_f, orK_f, orK_t, iteK_t, iteK_f, asgK_nm, asgK_t2, asgK_t3, endF_n, endF_r, slI_i, toBl_b, vw_i, vw_b, vw_t, vw_tI, vw_tT, vw_l, vw_s, vw_n, vw_ty, src_t, src_tI, src_tT, src_l, bin_add, bin_sub, neg_i, not_b]
        refine ⟨_, rfl, (fmod_rng (by omega)).1, (fmod_rng (by omega)).2, c + 1, ys.set p (z.fdiv lim), ?_, hb1.1, hb1.2, by rw [List.length_set]; exact hy⟩
        rw [List.map_set]
      · simp only [decide_eq_false hz0, e_var, e_cst, e_ty, e_gfn, e_bin, e_cmp, e_chn, e_neg, e_nt, e_one, e_and, e_or, e_ite, e_tup, e_lst, e_idx, e_slc, o_none, o_some, e_call, e_blt, e_isi, a_nil, a_cons, i_of, i_rng, c_none, c_some, s_set, s_setLc, s_asg, s_par, s_stI, s_ex, s_ret, s_if, s_rai, s_pass, b_nil, b_cons, M.opt_some, R.bind_ok, getE_0, getE_s, List.map_cons, List.map_nil, List.cons_append, List.nil_append, List.length_cons, List.length_nil, List.replicate_succ, List.replicate_zero, Nat.reduceSub, Nat.reduceAdd, List.set_cons_zero, List.set_cons_succ, Option.map_some, BT.nm, wipeE, seqK_n, seqK_r, andK_t, andK_f, orK_f, orK_t, iteK_t, iteK_f, asgK_nm, asgK_t2, asgK_t3, endF_n, endF_r, slI_i, toBl_b, vw_i, vw_b, vw_t, vw_tI, vw_tT, vw_l, vw_s, vw_n, vw_ty, src_t, src_tI, src_tT, src_l, bin_add, bin_sub, neg_i, not_b]
        simp only [e_var, e_cst, e_ty, e_gfn, e_bin, e_cmp, e_chn, e_neg, e_nt, e_one, e_and, e_or, e_ite, e_tup, e_lst, e_idx, e_slc, o_none, o_some, e_call, e_blt, e_isi, a_nil, a_cons, i_of, i_rng, c_none, c_some, s_set, s_setLc, s_asg, s_par, s_stI, s_ex, s_ret, s_if, s_rai, s_pass, b_nil, b_cons, M.opt_some, R.bind_ok, getE_0, getE_s, List.map_cons, List.map_nil, List.cons_append, List.nil_append, List.length_cons, List.length_nil, List.replicate_succ, List.replicate_zero, Nat.reduceSub, Nat.reduceAdd, List.set_cons_zero, List.set_cons_succ, Option.map_some, BT.nm, wipeE, seqK_n, seqK_r, andK_t, andK_f, orK_f, orK_t, iteK_t, iteK_f, asgK_nm, asgK_t2, asgK_t3, endF_n, endF_r, slI_i, toBl_b, vw_i, vw_b, vw_t, vw_tI, vw_tT, vw_l, vw_s, vw_n, vw_ty, src_t, src_tI, src_tT, src_l, bin_add, bin_sub, neg_i, not_b, vw_c0, idx_l, atI_0, a2']
        rw [bin_mul (by have : (104729 : Int).natAbs.log2 < 1000 := by decide
                        omega)]
        simp only [e_var, e_cst, e_ty, e_gfn, e_bin, e_cmp, e_chn, e_neg, e_nt, e_one, e_and, e_or, e_ite, e_tup, e_lst, e_idx, e_slc, o_none, o_some, e_call, e_blt, e_isi, a_nil, a_cons, i_of, i_rng, c_none, c_some, s_set, s_setLc, s_asg, s_par, s_stI, s_ex, s_ret, s_if, s_rai, s_pass, b_nil, b_cons, M.opt_some, R.bind_ok, getE_0, getE_s, List.map_cons, List.map_nil, List.cons_append, List.nil_append, List.length_cons, List.length_nil, List.replicate_succ, List.replicate_zero, Nat.reduceSub, Nat.reduceAdd, List.set_cons_zero, List.set_cons_succ, Option.map_some, BT.nm, wipeE, seqK_n, seqK_r, andK_t, andK_f, orK_f, orK_t, iteK_t, iteK_f, asgK_nm, asgK_t2, asgK_t3, endF_n, endF_r, slI_i, toBl_b, vw_i, vw_b, vw_t, vw_tI, vw_tT, vw_l, vw_s, vw_n, vw_ty, src_t, src_tI, src_tT, src_l, bin_add, bin_sub, neg_i, not_b, vw_c0, idx_l, atI_0]
        rw [bin_mod (by decide)]
        simp only [e_var, e_cst, e_ty, e_gfn, e_bin, e_cmp, e_chn, e_neg, e_nt, e_one, e_and, e_or, e_ite, e_tup, e_lst, e_idx, e_slc, o_none, o_some, e_call, e_blt, e_isi, a_nil, a_cons, i_of, i_rng, c_none, c_some, s_set, s_setLc, s_asg, s_par, s_stI, s_ex, s_ret, s_if, s_rai, s_pass, b_nil, b_cons, M.opt_some, R.bind_ok, getE_0, getE_s, List.map_cons, List.map_nil, List.cons_append, List.nil_append, List.length_cons, List.length_nil, List.replicate_succ, List.replicate_zero, Nat.reduceSub, Nat.reduceAdd, List.set_cons_zero, List.set_cons_succ, Option.map_some, BT.nm, wipeE, seqK_n, seqK_r, andK_t, andK_f, orK_f, orK_t, iteK_t, iteK_f, asgK_nm, asgK_t2, asgK_t3, endF_n, endF_r, slI_i, toBl_b, vw_i, vw_b, vw_t, vw_tI, vw_tT, vw_l, vw_s, vw_n, vw_ty, src_t, src_tI, src_tT, src_l, bin_add, bin_sub, neg_i, not_b, vw_c0, idx_l, atI_0]
        obtain ⟨m1, m2⟩ := fmod_rng (a := w + 104729 * (c + 1)) (b := 4294967291) (by decide)
        generalize (w + 104729 * (c + 1)).fmod 4294967291 = u at m1 m2
        rw [bin_pow ⟨by decide, by decide, by omega⟩]
        simp only [e_var, e_cst, e_ty, e_gfn, e_bin, e_cmp, e_chn, e_neg, e_nt, e_one, e_and, e_or, e_ite, e_tup, e_lst, e_idx, e_slc, o_none, o_some, e_call, e_blt, e_isi, a_nil, a_cons, i_of, i_rng, c_none, c_some, s_set, s_setLc, s_asg, s_par, s_stI, s_ex, s_ret, s_if, s_rai, s_pass, b_nil, b_cons, M.opt_some, R.bind_ok, getE_0, getE_s, List.map_cons, List.map_nil, List.cons_append, List.nil_append, List.length_cons, List.length_nil, List.replicate_succ, List.replicate_zero, Nat.reduceSub, Nat.reduceAdd, List.set_cons_zero, List.set_cons_succ, Option.map_some, BT.nm, wipeE, seqK_n, seqK_r, andK_t, andK_f, orK_f, orK_t, iteK_t, iteK_f, asgK_nm, asgK_t2, asgK_t3, endF_n, endF_r, slI_i, toBl_b, vw_i, vw_b, vw_t, vw_tI, vw_tT, vw_l, vw_s, vw_n, vw_ty, src_t, src_tI, src_tT, src_l, bin_add, bin_sub, neg_i, not_b, vw_c0, idx_l, atI_0]
        rw [bin_mod (by decide)]
        simp only [e_var, e_cst, e_ty, e_gfn, e_bin, e_cmp, e_chn, e_neg, e_nt, e_one, e_and, e_or, e_ite, e_tup, e_lst, e_idx, e_slc, o_none, o_some, e_call, e_blt, e_isi, a_nil, a_cons, i_of, i_rng, c_none, c_some, s_set, s_setLc, s_asg, s_par, s_stI, s_ex, s_ret, s_if, s_rai, s_pass, b_nil, b_cons, M.opt_some, R.bind_ok, getE_0, getE_s, List.map_cons, List.map_nil, List.cons_append, List.nil_append, List.length_cons, List.length_nil, List.replicate_succ, List.replicate_zero, Nat.reduceSub, Nat.reduceAdd, List.set_cons_zero, List.set_cons_succ, Option.map_some, BT.nm, wipeE, seqK_n, seqK_r, andK_t, andK_f, orK_f, orK_t, iteK_t, iteK_f, asgK_nm, asgK_t2, asgK_t3, endF_n, endF_r, slI_i, toBl_b, vw_i, vw_b, vw_t, vw_tI, vw_tT, vw_l, vw_s, vw_n, vw_ty, src_t, src_tI, src_tT, src_l, bin_add, bin_sub, neg_i, not_b, vw_c0, idx_l, atI_0]
        obtain ⟨m3, m4⟩ := fmod_rng (a := u ^ (5 : Int).toNat) (b := 4294967279) (by decide)
        generalize (u ^ (5 : Int).toNat).fmod 4294967279 = u2 at m3 m4
        rw [bin_div (by decide)]
        simp only [e_var, e_cst, e_ty, e_gfn, e_bin, e_cmp, e_chn, e_neg, e_nt, e_one, e_and, e_or, e_ite, e_tup, e_lst, e_idx, e_slc, o_none, o_some, e_call, e_blt, e_isi, a_nil, a_cons, i_of, i_rng, c_none, c_some, s_set, s_setLc, s_asg, s_par, s_stI, s_ex, s_ret, s_if, s_rai, s_pass, b_nil, b_cons, M.opt_some, R.bind_ok, getE_0, getE_s, List.map_cons, List.map_nil, List.cons_append, List.nil_append, List.length_cons, List.length_nil, List.replicate_succ, List.replicate_zero, Nat.reduceSub, Nat.reduceAdd, List.set_cons_zero, List.set_cons_succ, Option.map_some, BT.nm, wipeE, seqK_n, seqK_r, andK_t, andK_f, orK_f, orK_t, iteK_t, iteK_f, asgK_nm, asgK_t2, asgK_t3, endF_n, endF_r, slI_i, toBl_b, vw_i, vw_b, vw_t, vw_tI, vw_tT, vw_l, vw_s, vw_n, vw_ty, src_t, src_tI, src_tT, src_l, bin_add, bin_sub, neg_i, not_b, vw_c0, idx_l, atI_0]
        have m5 : (u2.fdiv 64).natAbs.log2 < 1000 := log_le (Nat.lt_of_le_of_lt (m := 4294967279) (by
          rw [Int.fdiv_eq_ediv_of_nonneg _ (by decide)]
          omega) (by decide +kernel)) (by decide)
        rw [bin_mul (by have : (69621 : Int).natAbs.log2 < 1000 := by decide
                        omega)]
        simp only [e_var, e_cst, e_ty, e_gfn, e_bin, e_cmp, e_chn, e_neg, e_nt, e_one, e_and, e_or, e_ite, e_tup, e_lst, e_idx, e_slc, o_none, o_some, e_call, e_blt, e_isi, a_nil, a_cons, i_of, i_rng, c_none, c_some, s_set, s_setLc, s_asg, s_par, s_stI, s_ex, s_ret, s_if, s_rai, s_pass, b_nil, b_cons, M.opt_some, R.bind_ok, getE_0, getE_s, List.map_cons, List.map_nil, List.cons_append, List.nil_append, List.length_cons, List.length_nil, List.replicate_succ, List.replicate_zero, Nat.reduceSub, Nat.reduceAdd, List.set_cons_zero, List.set_cons_succ, Option.map_some, BT.nm, wipeE, seqK_n, seqK_r, andK_t, andK_f, orK_f, orK_t, iteK_t, iteK_f, asgK_nm, asgK_t2, asgK_t3, endF_n, endF_r, slI_i, toBl_b, vw_i, vw_b, vw_t, vw_tI, vw_tT, vw_l, vw_s, vw_n, vw_ty, src_t, src_tI, src_tT, src_l, bin_add, bin_sub, neg_i, not_b, vw_c0, idx_l, atI_0]
        rw [bin_mod (by decide)]
        simp only [e_var, e_cst, e_ty, e_gfn, e_bin, e_cmp, e_chn, e_neg, e_nt, e_one, e_and, e_or, e_ite, e_tup, e_lst, e_idx, e_slc, o_none, o_some, e_call, e_blt, e_isi, a_nil, a_cons, i_of, i_rng, c_none, c_some, s_set, s_setLc, s_asg, s_par, s_stI, s_ex, s_ret, s_if, s_rai, s_pass, b_nil, b_cons, M.opt_some, R.bind_ok, getE_0, getE_s, List.map_cons, List.map_nil, List.cons_append, List.nil_append, List.length_cons, List.length_nil, List.replicate_succ, List.replicate_zero, Nat.reduceSub, Nat.reduceAdd, List.set_cons_zero, List.set_cons_succ, Option.map_some, BT.nm, wipeE, seqK_n, seqK_r, andK_t, andK_f, orK_f, orK_t, iteK_t, iteK_f, asgK_nm, asgK_t2, asgK_t3, endF_n, endF_r, slI_i, toBl_b, vw_i, vw_b, vw_t, vw_tI, vw_tT, vw_l, vw_s, vw_n, vw_ty, src_t, src_tI, src_tT, src_l, bin_add, bin_sub, neg_i, not_b, vw_c0, idx_l, atI_0]
        rw [bin_div (by decide)]
        simp only [e_var, e_cst, e_ty, e_gfn, e_bin, e_cmp, e_chn, e_neg, e_nt, e_one, e_and, e_or, e_ite, e_tup, e_lst, e_idx, e_slc, o_none, o_some, e_call, e_blt, e_isi, a_nil, a_cons, i_of, i_rng, c_none, c_some, s_set, s_setLc, s_asg, s_par, s_stI, s_ex, s_ret, s_if, s_rai, s_pass, b_nil, b_cons, M.opt_some, R.bind_ok, getE_0, getE_s, List.map_cons, List.map_nil, List.cons_append, List.nil_append, List.length_cons, List.length_nil, List.replicate_succ, List.replicate_zero, Nat.reduceSub, Nat.reduceAdd, List.set_cons_zero, List.set_cons_succ, Option.map_some, BT.nm, wipeE, seqK_n, seqK_r, andK_t, andK_f, orK_f, orK_t, iteK_t, iteK_f, asgK_nm, asgK_t2, asgK_t3, endF_n, endF_r, slI_i, toBl_b, vw_i, vw_b, vw_t, vw_tI, vw_tT, vw_l, vw_s, vw_n, vw_ty, src_t, src_tI, src_tT, src_l, bin_add, bin_sub, neg_i, not_b, vw_c0, idx_l, atI_0]
        rw [bin_mod (by omega)]
        simp only [e_var, e_cst, e_ty, e_gfn, e_bin, e_cmp, e_chn, e_neg, e_nt, e_one, e_and, e_or, e_ite, e_tup, e_lst, e_idx, e_slc, o_none, o_some, e_call, e_blt, e_isi, a_nil, a_cons, i_of, i_rng, c_none, c_some, s_set, s_setLc, s_asg, s_par, s_stI, s_ex, s_ret, s_if, s_rai, s_pass, b_nil, b_cons, M.opt_some, R.bind_ok, getE_0, getE_s, List.map_cons, List.map_nil, List.cons_append, List.nil_append, List.length_cons, List.length_nil, List.replicate_succ, List.replicate_zero, Nat.reduceSub, Nat.reduceAdd, List.set_cons_zero, List.set_cons_succ, Option.map_some, BT.nm, wipeE, seqK_n, seqK_r, andK_t, andK_f, orK_f, orK_t, iteK_t, iteK_f, asgK_nm, asgK_t2, asgK_t3, endF_n, endF_r, slI_i, toBl_b, vw_i, vw_b, vw_t, vw_tI, vw_tT, vw_l, vw_s, vw_n, vw_ty, src_t, src_tI, src_tT, src_l, bin_add, bin_sub, neg_i, not_b, vw_c0, idx_l, atI_0]
        exact ⟨_, rfl, (fmod_rng (by omega)).1, (fmod_rng (by omega)).2, c + 1, ys, rfl, hb1.1, hb1.2, hy⟩
    · simp only [decide_eq_false hw, e_var, e_cst, e_ty, e_gfn, e_bin, e_cmp, e_chn, e_neg, e_nt, e_one, e_and, e_or, e_ite, e_tup, e_lst, e_idx, e_slc, o_none, o_some, e_call, e_blt, e_isi, a_nil, a_cons, i_of, i_rng, c_none, c_some, s_set, s_setLc, s_asg, s_par, s_stI, s_ex, s_ret, s_if, s_rai, s_pass, b_nil, b_cons, M.opt_some, R.bind_ok, getE_0, getE_s, List.map_cons, List.map_nil, List.cons_append, List.nil_append, List.length_cons, List.length_nil, List.replicate_succ, List.replicate_zero, Nat.reduceSub, Nat.reduceAdd, List.set_cons_zero, List.set_cons_succ, Option.map_some, BT.nm, wipeE, seqK_n, seqK_r, andK_t, andK_f, orK_f, orK_t, iteK_t, iteK_f, asgK_nm, asgK_t2, asgK_t3, endF_n, endF_r, slI_i, toBl_b, vw_i, vw_b, vw_t, vw_tI, vw_tT, vw_l, vw_s, vw_n, vw_ty, src_t, src_tI, src_tT, src_l, bin_add, bin_sub, neg_i, not_b]
      simp only [e_var, e_cst, e_ty, e_gfn, e_bin, e_cmp, e_chn, e_neg, e_nt, e_one, e_and, e_or, e_ite, e_tup, e_lst, e_idx, e_slc, o_none, o_some, e_call, e_blt, e_isi, a_nil, a_cons, i_of, i_rng, c_none, c_some, s_set, s_setLc, s_asg, s_par, s_stI, s_ex, s_ret, s_if, s_rai, s_pass, b_nil, b_cons, M.opt_some, R.bind_ok, getE_0, getE_s, List.map_cons, List.map_nil, List.cons_append, List.nil_append, List.length_cons, List.length_nil, List.replicate_succ, List.replicate_zero, Nat.reduceSub, Nat.reduceAdd, List.set_cons_zero, List.set_cons_succ, Option.map_some, BT.nm, wipeE, seqK_n, seqK_r, andK_t, andK_f, orK_f, orK_t, iteK_t, iteK_f, asgK_nm, asgK_t2, asgK_t3, endF_n, endF_r, slI_i, toBl_b, vw_i, vw_b, vw_t, vw_tI, vw_tT, vw_l, vw_s, vw_n, vw_ty, src_t, src_tI, src_tT, src_l, bin_add, bin_sub, neg_i, not_b, vw_c0, idx_l, atI_0, a2']
      rw [bin_mul (by have : (104729 : Int).natAbs.log2 < 1000 := by decide
                      omega)]
      simp only [e_var, e_cst, e_ty, e_gfn, e_bin, e_cmp, e_chn, e_neg, e_nt, e_one, e_and, e_or, e_ite, e_tup, e_lst, e_idx, e_slc, o_none, o_some, e_call, e_blt, e_isi, a_nil, a_cons, i_of, i_rng, c_none, c_some, s_set, s_setLc, s_asg, s_par, s_stI, s_ex, s_ret, s_if, s_rai, s_pass, b_nil, b_cons, M.opt_some, R.bind_ok, getE_0, getE_s, List.map_cons, List.map_nil, List.cons_append, List.nil_append, List.length_cons, List.length_nil, List.replicate_succ, List.replicate_zero, Nat.reduceSub, Nat.reduceAdd, List.set_cons_zero, List.set_cons_succ, Option.map_some, BT.nm, wipeE, seqK_n, seqK_r, andK_t, andK_f, orK_f, orK_t, iteK_t, iteK_f, asgK_nm, asgK_t2, asgK_t3, endF_n, endF_r, slI_i, toBl_b, vw_i, vw_b, vw_t, vw_tI, vw_tT, vw_l, vw_s, vw_n, vw_ty, src_t, src_tI, src_tT, src_l, bin_add, bin_sub, neg_i, not_b, vw_c0, idx_l, atI_0]
      rw [bin_mod (by decide)]
      simp only [e_var, e_cst, e_ty, e_gfn, e_bin, e_cmp, e_chn, e_neg, e_nt, e_one, e_and, e_or, e_ite, e_tup, e_lst, e_idx, e_slc, o_none, o_some, e_call, e_blt, e_isi, a_nil, a_cons, i_of, i_rng, c_none, c_some, s_set, s_setLc, s_asg, s_par, s_stI, s_ex, s_ret, s_if, s_rai, s_pass, b_nil, b_cons, M.opt_some, R.bind_ok, getE_0, getE_s, List.map_cons, List.map_nil, List.cons_append, List.nil_append, List.length_cons, List.length_nil, List.replicate_succ, List.replicate_zero, Nat.reduceSub, Nat.reduceAdd, List.set_cons_zero, List.set_cons_succ, Option.map_some, BT.nm, wipeE, seqK_n, seqK_r, andK_t, andK_f, orK_f, orK_t, iteK_t, iteK_f, asgK_nm, asgK_t2, asgK_t3, endF_n, endF_r, slI_i, toBl_b, vw_i, vw_b, vw_t, vw_tI, vw_tT, vw_l, vw_s, vw_n, vw_ty, src_t, src_tI, src_tT, src_l, bin_add, bin_sub, neg_i, not_b, vw_c0, idx_l, atI_0]
      obtain ⟨m1, m2⟩ := fmod_rng (a := w + 104729 * (c + 1)) (b := 4294967291) (by decide)
      generalize (w + 104729 * (c + 1)).fmod 4294967291 = u at m1 m2
      rw [bin_pow ⟨by decide, by decide, by omega⟩]
      simp only [e_var, e_cst, e_ty, e_gfn, e_bin, e_cmp, e_chn, e_neg, e_nt, e_one, e_and, e_or, e_ite, e_tup, e_lst, e_idx, e_slc, o_none, o_some, e_call, e_blt, e_isi, a_nil, a_cons, i_of, i_rng, c_none, c_some, s_set, s_setLc, s_asg, s_par, s_stI, s_ex, s_ret, s_if, s_rai, s_pass, b_nil, b_cons, M.opt_some, R.bind_ok, getE_0, getE_s, List.map_cons, List.map_nil, List.cons_append, List.nil_append, List.length_cons, List.length_nil, List.replicate_succ, List.replicate_zero, Nat.reduceSub, Nat.reduceAdd, List.set_cons_zero, List.set_cons_succ, Option.map_some, BT.nm, wipeE, seqK_n, seqK_r, andK_t, andK_f, orK_f, orK_t, iteK_t, iteK_f, asgK_nm, asgK_t2, asgK_t3, endF_n, endF_r, slI_i, toBl_b, vw_i, vw_b, vw_t, vw_tI, vw_tT, vw_l, vw_s, vw_n, vw_ty, src_t, src_tI, src_tT, src_l, bin_add, bin_sub, neg_i, not_b, vw_c0, idx_l, atI_0]
      rw [bin_mod (by decide)]
      simp only [e_var, e_cst, e_ty, e_gfn, e_bin, e_cmp, e_chn, e_neg, e_nt, e_one, e_and, e_or, e_ite, e_tup, e_lst, e_idx, e_slc, o_none, o_some, e_call, e_blt, e_isi, a_nil, a_cons, i_of, i_rng, c_none, c_some, s_set, s_setLc, s_asg, s_par, s_stI, s_ex, s_ret, s_if, s_rai, s_pass, b_nil, b_cons, M.opt_some, R.bind_ok, getE_0, getE_s, List.map_cons, List.map_nil, List.cons_append, List.nil_append, List.length_cons, List.length_nil, List.replicate_succ, List.replicate_zero, Nat.reduceSub, Nat.reduceAdd, List.set_cons_zero, List.set_cons_succ, Option.map_some, BT.nm, wipeE, seqK_n, seqK_r, andK_t, andK_f, orK_f, orK_t, iteK_t, iteK_f, asgK_nm, asgK_t2, asgK_t3, endF_n, endF_r, slI_i, toBl_b, vw_i, vw_b, vw_t, vw_tI, vw_tT, vw_l, vw_s, vw_n, vw_ty, src_t, src_tI, src_tT, src_l, bin_add, bin_sub, neg_i, not_b, vw_c0, idx_l, atI_0]
      obtain ⟨m3, m4⟩ := fmod_rng (a := u ^ (5 : Int).toNat) (b := 4294967279) (by decide)
      generalize (u ^ (5 : Int).toNat).fmod 4294967279 = u2 at m3 m4
      rw [bin_div (by decide)]
      simp only [e_var, e_cst, e_ty, e_gfn, e_bin, e_cmp, e_chn, e_neg, e_nt, e_one, e_and, e_or, e_ite, e_tup, e_lst, e_idx, e_slc, o_none, o_some, e_call, e_blt, e_isi, a_nil, a_cons, i_of, i_rng, c_none, c_some, s_set, s_setLc, s_asg, s_par, s_stI, s_ex, s_ret, s_if, s_rai, s_pass, b_nil, b_cons, M.opt_some, R.bind_ok, getE_0, getE_s, List.map_cons, List.map_nil, List.cons_append, List.nil_append, List.length_cons, List.length_nil, List.replicate_succ, List.replicate_zero, Nat.reduceSub, Nat.reduceAdd, List.set_cons_zero, List.set_cons_succ, Option.map_some, BT.nm, wipeE, seqK_n, seqK_r, andK_t, andK_f, orK_f, orK_t, iteK_t, iteK_f, asgK_nm, asgK_t2, asgK_t3, endF_n, endF_r, slI_i, toBl_b, vw_i, vw_b, vw_t, vw_tI, vw_tT, vw_l, vw_s, vw_n, vw_ty, src_t, src_tI, src_tT, src_l, bin_add, bin_sub, neg_i, not_b, vw_c0, idx_l, atI_0]
      have m5 : (u2.fdiv 64).natAbs.log2 < 1000 := log_le (Nat.lt_of_le_of_lt (m := 4294967279) (by
        rw [Int.fdiv_eq_ediv_of_nonneg _ (by decide)]
        omega) (by decide +kernel)) (by decide)
      rw [bin_mul (by have : (69621 : Int).natAbs.log2 < 1000 := by decide
                      omega)]
      simp only [e_var, e_cst, e_ty, e_gfn, e_bin, e_cmp, e_chn, e_neg, e_nt, e_one, e_and, e_or, e_ite, e_tup, e_lst, e_idx, e_slc, o_none, o_some, e_call, e_blt, e_isi, a_nil, a_cons, i_of, i_rng, c_none, c_some, s_set, s_setLc, s_asg, s_par, s_stI, s_ex, s_ret, s_if, s_rai, s_pass, b_nil, b_cons, M.opt_some, R.bind_ok, getE_0, getE_s, List.map_cons, List.map_nil, List.cons_append, List.nil_append, List.length_cons, List.length_nil, List.replicate_succ, List.replicate_zero, Nat.reduceSub, Nat.reduceAdd, List.set_cons_zero, List.set_cons_succ, Option.map_some, BT.nm, wipeE, seqK_n, seqK_r, andK_t, andK_f, orK_f, orK_t, iteK_t, iteK_f, asgK_nm, asgK_t2, asgK_t3, endF_n, endF_r, slI_i, toBl_b, vw_i, vw_b, vw_t, vw_tI, vw_tT, vw_l, vw_s, vw_n, vw_ty, src_t, src_tI, src_tT, src_l, bin_add, bin_sub, neg_i, not_b, vw_c0, idx_l, atI_0]
      rw [bin_mod (by decide)]
      simp only [e_var, e_cst, e_ty, e_gfn, e_bin, e_cmp, e_chn, e_neg, e_nt, e_one, e_and, e_or, e_ite, e_tup, e_lst, e_idx, e_slc, o_none, o_some, e_call, e_blt, e_isi, a_nil, a_cons, i_of, i_rng, c_none, c_some, s_set, s_setLc, s_asg, s_par, s_stI, s_ex, s_ret, s_if, s_rai, s_pass, b_nil, b_cons, M.opt_some, R.bind_ok, getE_0, getE_s, List.map_cons, List.map_nil, List.cons_append, List.nil_append, List.length_cons, List.length_nil, List.replicate_succ, List.replicate_zero, Nat.reduceSub, Nat.reduceAdd, List.set_cons_zero, List.set_cons_succ, Option.map_some, BT.nm, wipeE, seqK_n, seqK_r, andK_t, andK_f, orK_f, orK_t, iteK_t, iteK_f, asgK_nm, asgK_t2, asgK_t3, endF_n, endF_r, slI_i, toBl_b, vw_i, vw_b, vw_t, vw_tI, vw_tT, vw_l, vw_s, vw_n, vw_ty, src_t, src_tI, src_tT, src_l, bin_add, bin_sub, neg_i, not_b, vw_c0, idx_l, atI_0]
      rw [bin_div (by decide)]
      simp only [e_var, e_cst, e_ty, e_gfn, e_bin, e_cmp, e_chn, e_neg, e_nt, e_one, e_and, e_or, e_ite, e_tup, e_lst, e_idx, e_slc, o_none, o_some, e_call, e_blt, e_isi, a_nil, a_cons, i_of, i_rng, c_none, c_some, s_set, s_setLc, s_asg, s_par, s_stI, s_ex, s_ret, s_if, s_rai, s_pass, b_nil, b_cons, M.opt_some, R.bind_ok, getE_0, getE_s, List.map_cons, List.map_nil, List.cons_append, List.nil_append, List.length_cons, List.length_nil, List.replicate_succ, List.replicate_zero, Nat.reduceSub, Nat.reduceAdd, List.set_cons_zero, List.set_cons_succ, Option.map_some, BT.nm, wipeE, seqK_n, seqK_r, andK_t, andK_f, orK_f, orK_t, iteK_t, iteK_f, asgK_nm, asgK_t2, asgK_t3, endF_n, endF_r, slI_i, toBl_b, vw_i, vw_b, vw_t, vw_tI, vw_tT, vw_l, vw_s, vw_n, vw_ty, src_t, src_tI, src_tT, src_l, bin_add, bin_sub, neg_i, not_b, vw_c0, idx_l, atI_0]
      rw [bin_mod (by omega)]
      simp only [e_var, e_cst, e_ty, e_gfn, e_bin, e_cmp, e_chn, e_neg, e_nt, e_one, e_and, e_or, e_ite, e_tup, e_lst, e_idx, e_slc, o_none, o_some, e_call, e_blt, e_isi, a_nil, a_cons, i_of, i_rng, c_none, c_some, s_set, s_setLc, s_asg, s_par, s_stI, s_ex, s_ret, s_if, s_rai, s_pass, b_nil, b_cons, M.opt_some, R.bind_ok, getE_0, getE_s, List.map_cons, List.map_nil, List.cons_append, List.nil_append, List.length_cons, List.length_nil, List.replicate_succ, List.replicate_zero, Nat.reduceSub, Nat.reduceAdd, List.set_cons_zero, List.set_cons_succ, Option.map_some, BT.nm, wipeE, seqK_n, seqK_r, andK_t, andK_f, orK_f, orK_t, iteK_t, iteK_f, asgK_nm, asgK_t2, asgK_t3, endF_n, endF_r, slI_i, toBl_b, vw_i, vw_b, vw_t, vw_tI, vw_tT, vw_l, vw_s, vw_n, vw_ty, src_t, src_tI, src_tT, src_l, bin_add, bin_sub, neg_i, not_b, vw_c0, idx_l, atI_0]
      exact ⟨_, rfl, (fmod_rng (by omega)).1, (fmod_rng (by omega)).2, c + 1, ys, rfl, hb1.1, hb1.2, hy⟩
end
end LC

end
section
set_option maxHeartbeats 4000000
/-! P5: drawn families. -/
namespace LC
open PySem PySem.Spec PyProof.Rows L2
theorem R.bind_assoc {α β γ : Type} (r : R α) (f : α → M β) (g : β → M γ) : (r.bind f).bind g = r.bind fun a S => (f a S).bind g := by
  cases r <;> rfl
theorem lcE_wp {cf : Str → List D → M D} {ρ : Env} {S S1 : Store} {vs : List Nat} {s : LI} {tg : LT} {c : LO} {e : LE} {xs : List D} (he : evI cf s ρ S = .ok (.fix xs) S1) (I : Nat → List D → Store → Prop) (h0 : I 0 [] S1)
    (hs : ∀ i d acc S', xs[i]? = some d → I i acc S' → ∃ ρ', asgT tg d (wipeE ρ vs) = some ρ' ∧ Wp (condM (evO cf c) ρ' S') (fun t S'' => if t = true then Wp (evE cf e ρ' S'') (fun y S3 => I (i + 1) (acc ++ [y]) S3) else I (i + 1) acc S'')) :
    Wp (evE cf (.lc vs s tg c e) ρ S) (fun d S' => ∃ ys, d = .lst ys ∧ I xs.length ys S') := wp_lc he I h0 hs
section
variable {fs : Str → Option Fn} {k : Nat} {S T : Store} {ns : List Int} {b : Nat}
abbrev DrawOk (fs : Str → Option Fn) : Prop := fs "_law_draw" = some ⟨3, 6, b__law_draw⟩
theorem r_town (h : fs "_law_town" = some ⟨1, 1, b__law_town⟩) (hl : ns.length ≤ 63) : Wp (runF fs (k + 1) "_law_town" [lI ns] []) (fun d S' => d = .cell 0 ∧ Tn ns [] 0 S') := by
  rw [rf_eq h]
  have e : (1 + (ns.map D.int).length ≤ line) := by
    rw [List.length_map]
    show 1 + ns.length ≤ 16777216
    omega
  simp only [b__law_town, e_var, e_cst, e_ty, e_gfn, e_bin, e_cmp, e_chn, e_neg, e_nt, e_one, e_and, e_or, e_ite, e_tup, e_lst, e_idx, e_slc, o_none, o_some, e_call, e_blt, e_isi, a_nil, a_cons, i_of, i_rng, c_none, c_some, s_set, s_setLc, s_asg, s_par, s_stI, s_ex, s_ret, s_if, s_rai, s_pass, b_nil, b_cons, M.opt_some, R.bind_ok, getE_0, getE_s, List.map_cons, List.map_nil, List.cons_append, List.nil_append, List.length_cons, List.length_nil, List.replicate_succ, List.replicate_zero, Nat.reduceSub, Nat.reduceAdd, List.set_cons_zero, List.set_cons_succ, Option.map_some, BT.nm, wipeE, seqK_n, seqK_r, andK_t, andK_f, orK_f, orK_t, iteK_t, iteK_f, asgK_nm, asgK_t2, asgK_t3, endF_n, endF_r, slI_i, toBl_b, vw_i, vw_b, vw_t, vw_tI, vw_tT, vw_l, vw_s, vw_n, vw_ty, src_t, src_tI, src_tT, src_l, bin_add, bin_sub, neg_i, not_b, R.bind_assoc, e_addC, e_lst, lI, list_l]
  rw [if_pos e]
  exact ⟨rfl, 0, ns, rfl, by omega, by omega, rfl⟩
theorem inc_all {n : Int} {a b : Int} (h : (a ≠ b)) (ha : 0 ≤ a ∧ a ≤ n - 1) (hb : 0 ≤ b ∧ b ≤ n - 1) {ys : List Int} (hp : ys.Perm [a, b]) (hs : ys.Pairwise (· ≤ ·)) : lotOk n ys := by
  refine ⟨fun z => ?_, fun x hx => ?_, ?_⟩
  · subst z
    have := hp.length_eq
    simp at this
  · have := hp.mem_iff.mp hx
    simp at this
    rcases this with rfl | rfl
    · exact ha
    · exact hb
  · have hd : ys.Nodup := hp.nodup_iff.mpr (by simp [h])
    exact hs.imp₂ (fun x y h1 h2 => by omega) hd
/-- draws a family -/
theorem r_family (h : DrawOk fs) (h' : fs "_law_family" = some ⟨3, 10, b__law_family⟩) {most : Int} (hm : 1 ≤ most ∧ most ≤ 7) (hb : b ≤ 900000) (ht : Tn ns T b S) :
    Wp (runF fs (k + 2) "_law_family" [lI ns, .cell 0, .int most] S) (fun d S' => ∃ n ss, d = fam n ss ∧ n ≤ most ∧ FamOk n ss ∧ Tn ns T (b + 100) S') := by
  rw [rf_eq h']
  simp only [b__law_family, e_var, e_cst, e_ty, e_gfn, e_bin, e_cmp, e_chn, e_neg, e_nt, e_one, e_and, e_or, e_ite, e_tup, e_lst, e_idx, e_slc, o_none, o_some, e_call, e_blt, e_isi, a_nil, a_cons, i_of, i_rng, c_none, c_some, s_set, s_setLc, s_asg, s_par, s_stI, s_ex, s_ret, s_if, s_rai, s_pass, b_nil, b_cons, M.opt_some, R.bind_ok, getE_0, getE_s, List.map_cons, List.map_nil, List.cons_append, List.nil_append, List.length_cons, List.length_nil, List.replicate_succ, List.replicate_zero, Nat.reduceSub, Nat.reduceAdd, List.set_cons_zero, List.set_cons_succ, Option.map_some, BT.nm, wipeE, seqK_n, seqK_r, andK_t, andK_f, orK_f, orK_t, iteK_t, iteK_f, asgK_nm, asgK_t2, asgK_t3, endF_n, endF_r, slI_i, toBl_b, vw_i, vw_b, vw_t, vw_tI, vw_tT, vw_l, vw_s, vw_n, vw_ty, src_t, src_tI, src_tT, src_l, bin_add, bin_sub, neg_i, not_b, R.bind_assoc, e_lst]
  refine Wp.bind ((r_draw h (lim := most) (by omega) (by omega) ht).mono fun d S1 hd => ?_)
  obtain ⟨v, rfl, v0, v1, ht1⟩ := hd
  simp only [e_var, e_cst, e_ty, e_gfn, e_bin, e_cmp, e_chn, e_neg, e_nt, e_one, e_and, e_or, e_ite, e_tup, e_lst, e_idx, e_slc, o_none, o_some, e_call, e_blt, e_isi, a_nil, a_cons, i_of, i_rng, c_none, c_some, s_set, s_setLc, s_asg, s_par, s_stI, s_ex, s_ret, s_if, s_rai, s_pass, b_nil, b_cons, M.opt_some, R.bind_ok, getE_0, getE_s, List.map_cons, List.map_nil, List.cons_append, List.nil_append, List.length_cons, List.length_nil, List.replicate_succ, List.replicate_zero, Nat.reduceSub, Nat.reduceAdd, List.set_cons_zero, List.set_cons_succ, Option.map_some, BT.nm, wipeE, seqK_n, seqK_r, andK_t, andK_f, orK_f, orK_t, iteK_t, iteK_f, asgK_nm, asgK_t2, asgK_t3, endF_n, endF_r, slI_i, toBl_b, vw_i, vw_b, vw_t, vw_tI, vw_tT, vw_l, vw_s, vw_n, vw_ty, src_t, src_tI, src_tT, src_l, bin_add, bin_sub, neg_i, not_b, R.bind_assoc, e_lst]
  refine Wp.bind ((r_draw h (lim := 3) (by omega) (by omega) ht1).mono fun d S2 hd => ?_)
  obtain ⟨o, rfl, o0, o1, ht2⟩ := hd
  simp only [e_var, e_cst, e_ty, e_gfn, e_bin, e_cmp, e_chn, e_neg, e_nt, e_one, e_and, e_or, e_ite, e_tup, e_lst, e_idx, e_slc, o_none, o_some, e_call, e_blt, e_isi, a_nil, a_cons, i_of, i_rng, c_none, c_some, s_set, s_setLc, s_asg, s_par, s_stI, s_ex, s_ret, s_if, s_rai, s_pass, b_nil, b_cons, M.opt_some, R.bind_ok, getE_0, getE_s, List.map_cons, List.map_nil, List.cons_append, List.nil_append, List.length_cons, List.length_nil, List.replicate_succ, List.replicate_zero, Nat.reduceSub, Nat.reduceAdd, List.set_cons_zero, List.set_cons_succ, Option.map_some, BT.nm, wipeE, seqK_n, seqK_r, andK_t, andK_f, orK_f, orK_t, iteK_t, iteK_f, asgK_nm, asgK_t2, asgK_t3, endF_n, endF_r, slI_i, toBl_b, vw_i, vw_b, vw_t, vw_tI, vw_tT, vw_l, vw_s, vw_n, vw_ty, src_t, src_tI, src_tT, src_l, bin_add, bin_sub, neg_i, not_b, R.bind_assoc, e_lst, cmp_gt]
  -- the second name
  have key : ∀ (p : Bool) (S3 : Store), (p = true → 2 < 1 + v) → Tn ns T (b + 3) S3 → Wp (((exS (runF fs (k + 1)) (.for_ (.rng (.cons (.bin .Add (.cst (.int 1)) (.call "_law_draw" (.cons (.var 0) (.cons (.var 1) (.cons (.cst (.int 8)) .nil))))) .nil)) (.nm 7) (.cons (.ifs (.var 6) (.cons (.set 8 (.call "_law_draw" (.cons (.var 0) (.cons (.var 1) (.cons (.var 3) .nil)))))
    (.cons (.set 9 (.blt .sorted (.cons (.lst (.cons (.var 8) (.cons (.bin .Mod (.bin .Add (.bin .Add (.var 8) (.cst (.int 1))) (.call "_law_draw" (.cons (.var 0) (.cons (.var 1) (.cons (.cst (.int 2)) .nil))))) (.var 3)) .nil))) .nil)))
    .nil)) (.cons (.setLc 9 (.lc [8] (.rng (.cons (.var 3) .nil)) (.nm 8) (.some (.cmp .Lt (.call "_law_draw" (.cons (.var 0) (.cons (.var 1) (.cons (.cst (.int 4)) .nil)))) (.var 5))) (.var 8)))
    .nil))
    (.cons (.set 9 (.blt .tuple (.cons (.ite (.cmp .NotEq (.var 9) (.lst .nil)) (.var 9) (.lst (.cons (.call "_law_draw" (.cons (.var 0) (.cons (.var 1) (.cons (.var 3) .nil)))) .nil))) .nil)))
    (.cons (.set 4 (.bin .Add (.var 4) (.ite (.cmp .NotIn (.var 9) (.var 4)) (.lst (.cons (.var 9) .nil)) (.lst .nil))))
    .nil)))) [some (lI ns), some (.cell 0), some (.int most), some (.int (1 + v)), some (.lst []), some (.int (1 + o)), some (.bl p), none, none, none] S3)))
      (fun f S' => ∃ found t1 t2 t3, f = .nx [some (lI ns), some (.cell 0), some (.int most), some (.int (1 + v)), some (.lst (found.map tI)), some (.int (1 + o)), some (.bl p), t1, t2, t3] ∧ Tn ns T (b + 100) S' ∧ (∀ s ∈ found, lotOk (1 + v) s) ∧ found.Nodup ∧ found.length ≤ 8 ∧ found ≠ []) := by
    intro p S3 hp ht3
    rw [s_for]
    have hi : Wp (evI (runF fs (k + 1)) (.rng (.cons (.bin .Add (.cst (.int 1)) (.call "_law_draw" (.cons (.var 0) (.cons (.var 1) (.cons (.cst (.int 8)) .nil))))) .nil)) [some (lI ns), some (.cell 0), some (.int most), some (.int (1 + v)), some (.lst []), some (.int (1 + o)), some (.bl p), none, none, none] S3) (fun s S4 => ∃ m : Nat, s = .fix ((List.range m).map fun i : Nat => D.int (i : Int)) ∧ 1 ≤ m ∧ m ≤ 8 ∧ Tn ns T (b + 4) S4) := by
      simp only [e_var, e_cst, e_ty, e_gfn, e_bin, e_cmp, e_chn, e_neg, e_nt, e_one, e_and, e_or, e_ite, e_tup, e_lst, e_idx, e_slc, o_none, o_some, e_call, e_blt, e_isi, a_nil, a_cons, i_of, i_rng, c_none, c_some, s_set, s_setLc, s_asg, s_par, s_stI, s_ex, s_ret, s_if, s_rai, s_pass, b_nil, b_cons, M.opt_some, R.bind_ok, getE_0, getE_s, List.map_cons, List.map_nil, List.cons_append, List.nil_append, List.length_cons, List.length_nil, List.replicate_succ, List.replicate_zero, Nat.reduceSub, Nat.reduceAdd, List.set_cons_zero, List.set_cons_succ, Option.map_some, BT.nm, wipeE, seqK_n, seqK_r, andK_t, andK_f, orK_f, orK_t, iteK_t, iteK_f, asgK_nm, asgK_t2, asgK_t3, endF_n, endF_r, slI_i, toBl_b, vw_i, vw_b, vw_t, vw_tI, vw_tT, vw_l, vw_s, vw_n, vw_ty, src_t, src_tI, src_tT, src_l, bin_add, bin_sub, neg_i, not_b, R.bind_assoc]
      refine Wp.bind ((r_draw h (lim := 8) (by omega) (by omega) ht3).mono fun d S4 hd => ?_)
      obtain ⟨u, rfl, u0, u1, ht4⟩ := hd
      simp only [e_var, e_cst, e_ty, e_gfn, e_bin, e_cmp, e_chn, e_neg, e_nt, e_one, e_and, e_or, e_ite, e_tup, e_lst, e_idx, e_slc, o_none, o_some, e_call, e_blt, e_isi, a_nil, a_cons, i_of, i_rng, c_none, c_some, s_set, s_setLc, s_asg, s_par, s_stI, s_ex, s_ret, s_if, s_rai, s_pass, b_nil, b_cons, M.opt_some, R.bind_ok, getE_0, getE_s, List.map_cons, List.map_nil, List.cons_append, List.nil_append, List.length_cons, List.length_nil, List.replicate_succ, List.replicate_zero, Nat.reduceSub, Nat.reduceAdd, List.set_cons_zero, List.set_cons_succ, Option.map_some, BT.nm, wipeE, seqK_n, seqK_r, andK_t, andK_f, orK_f, orK_t, iteK_t, iteK_f, asgK_nm, asgK_t2, asgK_t3, endF_n, endF_r, slI_i, toBl_b, vw_i, vw_b, vw_t, vw_tI, vw_tT, vw_l, vw_s, vw_n, vw_ty, src_t, src_tI, src_tT, src_l, bin_add, bin_sub, neg_i, not_b, R.bind_assoc]
      rw [rng_1 (by omega), rangeD_n]
      exact ⟨(1 + u).toNat, rfl, by omega, by omega, ht4⟩
    obtain ⟨s, S4, e, m, rfl, m1, m8, ht4⟩ := hi.get
    refine wp_for e (fun i ρ S' => ∃ found t1 t2 t3, ρ = [some (lI ns), some (.cell 0), some (.int most), some (.int (1 + v)), some (.lst (found.map tI)), some (.int (1 + o)), some (.bl p), t1, t2, t3] ∧ Tn ns T (b + 4 + 10 * i) S' ∧ (∀ s ∈ found, lotOk (1 + v) s) ∧ found.Nodup ∧ found.length ≤ i ∧ (0 < i → found ≠ [])) _ ⟨[], none, none, none, rfl, ht4, by simp, by simp, by simp, by simp⟩ (fun i d ρ S' hx hI => ?_) (fun ρ S' hI => ?_)
    · obtain ⟨found, t1, t2, t3, rfl, ht5, g1, g2, g3, g4⟩ := hI
      have him : i < m := by
        have := (List.getElem?_eq_some_iff.mp hx).1
        simpa using this
      refine ⟨_, rfl, ?_⟩
      -- one, as a list
      have first : ∀ (ρ0 : Env), ρ0 = [some (lI ns), some (.cell 0), some (.int most), some (.int (1 + v)), some (.lst (found.map tI)), some (.int (1 + o)), some (.bl p), some d, t2, t3] → Wp (exS (runF fs (k + 1)) (.ifs (.var 6) (.cons (.set 8 (.call "_law_draw" (.cons (.var 0) (.cons (.var 1) (.cons (.var 3) .nil)))))
    (.cons (.set 9 (.blt .sorted (.cons (.lst (.cons (.var 8) (.cons (.bin .Mod (.bin .Add (.bin .Add (.var 8) (.cst (.int 1))) (.call "_law_draw" (.cons (.var 0) (.cons (.var 1) (.cons (.cst (.int 2)) .nil))))) (.var 3)) .nil))) .nil)))
    .nil)) (.cons (.setLc 9 (.lc [8] (.rng (.cons (.var 3) .nil)) (.nm 8) (.some (.cmp .Lt (.call "_law_draw" (.cons (.var 0) (.cons (.var 1) (.cons (.cst (.int 4)) .nil)))) (.var 5))) (.var 8)))
    .nil)) ρ0 S') (fun f S'' => ∃ (t : Option D) (ys : List Int), f = .nx [some (lI ns), some (.cell 0), some (.int most), some (.int (1 + v)), some (.lst (found.map tI)), some (.int (1 + o)), some (.bl p), some d, t, some (.lst (ys.map D.int))] ∧ (ys ≠ [] → lotOk (1 + v) ys) ∧ Tn ns T (b + 4 + 10 * i + 8) S'') := by
        rintro ρ0 rfl
        cases p with
        | true =>
          have h2 := hp rfl
          simp only [e_var, e_cst, e_ty, e_gfn, e_bin, e_cmp, e_chn, e_neg, e_nt, e_one, e_and, e_or, e_ite, e_tup, e_lst, e_idx, e_slc, o_none, o_some, e_call, e_blt, e_isi, a_nil, a_cons, i_of, i_rng, c_none, c_some, s_set, s_setLc, s_asg, s_par, s_stI, s_ex, s_ret, s_if, s_rai, s_pass, b_nil, b_cons, M.opt_some, R.bind_ok, getE_0, getE_s, List.map_cons, List.map_nil, List.cons_append, List.nil_append, List.length_cons, List.length_nil, List.replicate_succ, List.replicate_zero, Nat.reduceSub, Nat.reduceAdd, List.set_cons_zero, List.set_cons_succ, Option.map_some, BT.nm, wipeE, seqK_n, seqK_r, andK_t, andK_f, orK_f, orK_t, iteK_t, iteK_f, asgK_nm, asgK_t2, asgK_t3, endF_n, endF_r, slI_i, toBl_b, vw_i, vw_b, vw_t, vw_tI, vw_tT, vw_l, vw_s, vw_n, vw_ty, src_t, src_tI, src_tT, src_l, bin_add, bin_sub, neg_i, not_b, R.bind_assoc, e_lst]
          refine Wp.bind ((r_draw h (lim := 1 + v) (by omega) (by omega) ht5).mono fun d S6 hd => ?_)
          obtain ⟨q, rfl, q0, q1, ht6⟩ := hd
          simp only [e_var, e_cst, e_ty, e_gfn, e_bin, e_cmp, e_chn, e_neg, e_nt, e_one, e_and, e_or, e_ite, e_tup, e_lst, e_idx, e_slc, o_none, o_some, e_call, e_blt, e_isi, a_nil, a_cons, i_of, i_rng, c_none, c_some, s_set, s_setLc, s_asg, s_par, s_stI, s_ex, s_ret, s_if, s_rai, s_pass, b_nil, b_cons, M.opt_some, R.bind_ok, getE_0, getE_s, List.map_cons, List.map_nil, List.cons_append, List.nil_append, List.length_cons, List.length_nil, List.replicate_succ, List.replicate_zero, Nat.reduceSub, Nat.reduceAdd, List.set_cons_zero, List.set_cons_succ, Option.map_some, BT.nm, wipeE, seqK_n, seqK_r, andK_t, andK_f, orK_f, orK_t, iteK_t, iteK_f, asgK_nm, asgK_t2, asgK_t3, endF_n, endF_r, slI_i, toBl_b, vw_i, vw_b, vw_t, vw_tI, vw_tT, vw_l, vw_s, vw_n, vw_ty, src_t, src_tI, src_tT, src_l, bin_add, bin_sub, neg_i, not_b, R.bind_assoc, e_lst]
          refine Wp.bind ((r_draw h (lim := 2) (by omega) (by omega) ht6).mono fun d S7 hd => ?_)
          obtain ⟨q2, rfl, q20, q21, ht7⟩ := hd
          simp only [e_var, e_cst, e_ty, e_gfn, e_bin, e_cmp, e_chn, e_neg, e_nt, e_one, e_and, e_or, e_ite, e_tup, e_lst, e_idx, e_slc, o_none, o_some, e_call, e_blt, e_isi, a_nil, a_cons, i_of, i_rng, c_none, c_some, s_set, s_setLc, s_asg, s_par, s_stI, s_ex, s_ret, s_if, s_rai, s_pass, b_nil, b_cons, M.opt_some, R.bind_ok, getE_0, getE_s, List.map_cons, List.map_nil, List.cons_append, List.nil_append, List.length_cons, List.length_nil, List.replicate_succ, List.replicate_zero, Nat.reduceSub, Nat.reduceAdd, List.set_cons_zero, List.set_cons_succ, Option.map_some, BT.nm, wipeE, seqK_n, seqK_r, andK_t, andK_f, orK_f, orK_t, iteK_t, iteK_f, asgK_nm, asgK_t2, asgK_t3, endF_n, endF_r, slI_i, toBl_b, vw_i, vw_b, vw_t, vw_tI, vw_tT, vw_l, vw_s, vw_n, vw_ty, src_t, src_tI, src_tT, src_l, bin_add, bin_sub, neg_i, not_b, R.bind_assoc, e_lst]
          rw [bin_mod (by omega)]
          simp only [e_var, e_cst, e_ty, e_gfn, e_bin, e_cmp, e_chn, e_neg, e_nt, e_one, e_and, e_or, e_ite, e_tup, e_lst, e_idx, e_slc, o_none, o_some, e_call, e_blt, e_isi, a_nil, a_cons, i_of, i_rng, c_none, c_some, s_set, s_setLc, s_asg, s_par, s_stI, s_ex, s_ret, s_if, s_rai, s_pass, b_nil, b_cons, M.opt_some, R.bind_ok, getE_0, getE_s, List.map_cons, List.map_nil, List.cons_append, List.nil_append, List.length_cons, List.length_nil, List.replicate_succ, List.replicate_zero, Nat.reduceSub, Nat.reduceAdd, List.set_cons_zero, List.set_cons_succ, Option.map_some, BT.nm, wipeE, seqK_n, seqK_r, andK_t, andK_f, orK_f, orK_t, iteK_t, iteK_f, asgK_nm, asgK_t2, asgK_t3, endF_n, endF_r, slI_i, toBl_b, vw_i, vw_b, vw_t, vw_tI, vw_tT, vw_l, vw_s, vw_n, vw_ty, src_t, src_tI, src_tT, src_l, bin_add, bin_sub, neg_i, not_b, R.bind_assoc, e_lst]
          have r1 := fmod_rng (a := q + 1 + q2) (b := 1 + v) (by omega)
          have hne : q ≠ (q + 1 + q2).fmod (1 + v) := by
            rw [Int.fmod_eq_emod_of_nonneg _ (by omega)]
            have hv : v = 2 ∨ v = 3 ∨ v = 4 ∨ v = 5 ∨ v = 6 := by omega
            clear r1 e
            rcases hv with rfl | rfl | rfl | rfl | rfl
            · show q ≠ (q + 1 + q2) % 3
              omega
            · show q ≠ (q + 1 + q2) % 4
              omega
            · show q ≠ (q + 1 + q2) % 5
              omega
            · show q ≠ (q + 1 + q2) % 6
              omega
            · show q ≠ (q + 1 + q2) % 7
              omega
          obtain ⟨ys, e1, e2, e3⟩ := sortD_int [q, (q + 1 + q2).fmod (1 + v)]
          have e4 := sorted_l (S := S7) (sortOk_int [q, (q + 1 + q2).fmod (1 + v)])
          simp only [List.map_cons, List.map_nil] at e1 e4
          rw [e4, e1]
          simp only [e_var, e_cst, e_ty, e_gfn, e_bin, e_cmp, e_chn, e_neg, e_nt, e_one, e_and, e_or, e_ite, e_tup, e_lst, e_idx, e_slc, o_none, o_some, e_call, e_blt, e_isi, a_nil, a_cons, i_of, i_rng, c_none, c_some, s_set, s_setLc, s_asg, s_par, s_stI, s_ex, s_ret, s_if, s_rai, s_pass, b_nil, b_cons, M.opt_some, R.bind_ok, getE_0, getE_s, List.map_cons, List.map_nil, List.cons_append, List.nil_append, List.length_cons, List.length_nil, List.replicate_succ, List.replicate_zero, Nat.reduceSub, Nat.reduceAdd, List.set_cons_zero, List.set_cons_succ, Option.map_some, BT.nm, wipeE, seqK_n, seqK_r, andK_t, andK_f, orK_f, orK_t, iteK_t, iteK_f, asgK_nm, asgK_t2, asgK_t3, endF_n, endF_r, slI_i, toBl_b, vw_i, vw_b, vw_t, vw_tI, vw_tT, vw_l, vw_s, vw_n, vw_ty, src_t, src_tI, src_tT, src_l, bin_add, bin_sub, neg_i, not_b, R.bind_assoc]
          exact ⟨_, ys, rfl, fun _ => inc_all hne (by omega) (by omega) e2 e3, ht7.mono (by omega)⟩
        | false =>
          simp only [e_var, e_cst, e_ty, e_gfn, e_bin, e_cmp, e_chn, e_neg, e_nt, e_one, e_and, e_or, e_ite, e_tup, e_lst, e_idx, e_slc, o_none, o_some, e_call, e_blt, e_isi, a_nil, a_cons, i_of, i_rng, c_none, c_some, s_set, s_setLc, s_asg, s_par, s_stI, s_ex, s_ret, s_if, s_rai, s_pass, b_nil, b_cons, M.opt_some, R.bind_ok, getE_0, getE_s, List.map_cons, List.map_nil, List.cons_append, List.nil_append, List.length_cons, List.length_nil, List.replicate_succ, List.replicate_zero, Nat.reduceSub, Nat.reduceAdd, List.set_cons_zero, List.set_cons_succ, Option.map_some, BT.nm, wipeE, seqK_n, seqK_r, andK_t, andK_f, orK_f, orK_t, iteK_t, iteK_f, asgK_nm, asgK_t2, asgK_t3, endF_n, endF_r, slI_i, toBl_b, vw_i, vw_b, vw_t, vw_tI, vw_tT, vw_l, vw_s, vw_n, vw_ty, src_t, src_tI, src_tT, src_l, bin_add, bin_sub, neg_i, not_b, R.bind_assoc, e_lst]
          have hl := lcE_wp (cf := runF fs (k + 1)) (vs := [8]) (tg := .nm 8) (S := S') (S1 := S') (ρ := [some (lI ns), some (.cell 0), some (.int most), some (.int (1 + v)), some (.lst (found.map tI)), some (.int (1 + o)), some (.bl false), some d, t2, t3]) (s := .rng (.cons (.var 3) .nil))
            (c := .some (.cmp .Lt (.call "_law_draw" (.cons (.var 0) (.cons (.var 1) (.cons (.cst (.int 4)) .nil)))) (.var 5))) (e := .var 8) (xs := (List.range (1 + v).toNat).map fun i : Nat => D.int (i : Int)) (by
              simp only [e_var, e_cst, e_ty, e_gfn, e_bin, e_cmp, e_chn, e_neg, e_nt, e_one, e_and, e_or, e_ite, e_tup, e_lst, e_idx, e_slc, o_none, o_some, e_call, e_blt, e_isi, a_nil, a_cons, i_of, i_rng, c_none, c_some, s_set, s_setLc, s_asg, s_par, s_stI, s_ex, s_ret, s_if, s_rai, s_pass, b_nil, b_cons, M.opt_some, R.bind_ok, getE_0, getE_s, List.map_cons, List.map_nil, List.cons_append, List.nil_append, List.length_cons, List.length_nil, List.replicate_succ, List.replicate_zero, Nat.reduceSub, Nat.reduceAdd, List.set_cons_zero, List.set_cons_succ, Option.map_some, BT.nm, wipeE, seqK_n, seqK_r, andK_t, andK_f, orK_f, orK_t, iteK_t, iteK_f, asgK_nm, asgK_t2, asgK_t3, endF_n, endF_r, slI_i, toBl_b, vw_i, vw_b, vw_t, vw_tI, vw_tT, vw_l, vw_s, vw_n, vw_ty, src_t, src_tI, src_tT, src_l, bin_add, bin_sub, neg_i, not_b, R.bind_assoc]
              rw [rng_1 (by omega), rangeD_n]
              simp only [e_var, e_cst, e_ty, e_gfn, e_bin, e_cmp, e_chn, e_neg, e_nt, e_one, e_and, e_or, e_ite, e_tup, e_lst, e_idx, e_slc, o_none, o_some, e_call, e_blt, e_isi, a_nil, a_cons, i_of, i_rng, c_none, c_some, s_set, s_setLc, s_asg, s_par, s_stI, s_ex, s_ret, s_if, s_rai, s_pass, b_nil, b_cons, M.opt_some, R.bind_ok, getE_0, getE_s, List.map_cons, List.map_nil, List.cons_append, List.nil_append, List.length_cons, List.length_nil, List.replicate_succ, List.replicate_zero, Nat.reduceSub, Nat.reduceAdd, List.set_cons_zero, List.set_cons_succ, Option.map_some, BT.nm, wipeE, seqK_n, seqK_r, andK_t, andK_f, orK_f, orK_t, iteK_t, iteK_f, asgK_nm, asgK_t2, asgK_t3, endF_n, endF_r, slI_i, toBl_b, vw_i, vw_b, vw_t, vw_tI, vw_tT, vw_l, vw_s, vw_n, vw_ty, src_t, src_tI, src_tT, src_l, bin_add, bin_sub, neg_i, not_b, R.bind_assoc]) (fun j acc S'' => ∃ ys : List Int, acc = ys.map D.int ∧ ys.Pairwise (· < ·) ∧ (∀ y ∈ ys, 0 ≤ y ∧ y < j) ∧ Tn ns T (b + 4 + 10 * i + j) S'') ⟨[], rfl, by simp, by simp, ht5⟩ (fun j d2 acc S'' hx2 hI2 => by
              obtain ⟨ys, rfl, y1, y2, ht6⟩ := hI2
              have hj : j < (1 + v).toNat := by
                have := (List.getElem?_eq_some_iff.mp hx2).1
                simpa using this
              have hd2 : d2 = .int (j : Int) := by
                rw [List.getElem?_map, List.getElem?_range hj] at hx2
                cases hx2
                rfl
              subst hd2
              refine ⟨_, rfl, ?_⟩
              simp only [e_var, e_cst, e_ty, e_gfn, e_bin, e_cmp, e_chn, e_neg, e_nt, e_one, e_and, e_or, e_ite, e_tup, e_lst, e_idx, e_slc, o_none, o_some, e_call, e_blt, e_isi, a_nil, a_cons, i_of, i_rng, c_none, c_some, s_set, s_setLc, s_asg, s_par, s_stI, s_ex, s_ret, s_if, s_rai, s_pass, b_nil, b_cons, M.opt_some, R.bind_ok, getE_0, getE_s, List.map_cons, List.map_nil, List.cons_append, List.nil_append, List.length_cons, List.length_nil, List.replicate_succ, List.replicate_zero, Nat.reduceSub, Nat.reduceAdd, List.set_cons_zero, List.set_cons_succ, Option.map_some, BT.nm, wipeE, seqK_n, seqK_r, andK_t, andK_f, orK_f, orK_t, iteK_t, iteK_f, asgK_nm, asgK_t2, asgK_t3, endF_n, endF_r, slI_i, toBl_b, vw_i, vw_b, vw_t, vw_tI, vw_tT, vw_l, vw_s, vw_n, vw_ty, src_t, src_tI, src_tT, src_l, bin_add, bin_sub, neg_i, not_b, R.bind_assoc]
              refine Wp.bind ((r_draw h (lim := 4) (by omega) (by omega) ht6).mono fun d3 S7 hd => ?_)
              obtain ⟨q, rfl, q0, q1, ht7⟩ := hd
              simp only [e_var, e_cst, e_ty, e_gfn, e_bin, e_cmp, e_chn, e_neg, e_nt, e_one, e_and, e_or, e_ite, e_tup, e_lst, e_idx, e_slc, o_none, o_some, e_call, e_blt, e_isi, a_nil, a_cons, i_of, i_rng, c_none, c_some, s_set, s_setLc, s_asg, s_par, s_stI, s_ex, s_ret, s_if, s_rai, s_pass, b_nil, b_cons, M.opt_some, R.bind_ok, getE_0, getE_s, List.map_cons, List.map_nil, List.cons_append, List.nil_append, List.length_cons, List.length_nil, List.replicate_succ, List.replicate_zero, Nat.reduceSub, Nat.reduceAdd, List.set_cons_zero, List.set_cons_succ, Option.map_some, BT.nm, wipeE, seqK_n, seqK_r, andK_t, andK_f, orK_f, orK_t, iteK_t, iteK_f, asgK_nm, asgK_t2, asgK_t3, endF_n, endF_r, slI_i, toBl_b, vw_i, vw_b, vw_t, vw_tI, vw_tT, vw_l, vw_s, vw_n, vw_ty, src_t, src_tI, src_tT, src_l, bin_add, bin_sub, neg_i, not_b, R.bind_assoc, cmp_lt]
              refine Wp.ok ?_
              by_cases hq : q < 1 + o
              · rw [if_pos (decide_eq_true hq)]
                refine Wp.ok ⟨ys ++ [(j : Int)], by simp, ?_, fun y hy => ?_, ht7.mono (by omega)⟩
                · rw [List.pairwise_append]
                  refine ⟨y1, by simp, fun a ha b hb => ?_⟩
                  simp at hb
                  subst hb
                  exact (y2 a ha).2
                · rcases List.mem_append.mp hy with hy | hy
                  · have := y2 y hy
                    omega
                  · simp at hy
                    omega
              · rw [if_neg (by simpa using hq)]
                exact ⟨ys, rfl, y1, fun y hy => by
                  have := y2 y hy
                  omega, ht7.mono (by omega)⟩)
          refine Wp.bind (hl.mono fun dd S8 hh => ?_)
          obtain ⟨zs, rfl, ys, rfl, y1, y2, ht8⟩ := hh
          rw [List.length_map, List.length_range] at y2 ht8
          exact ⟨_, ys, rfl, fun hne => ⟨hne, fun x hx => by
            have := y2 x hx
            omega, y1⟩, ht8.mono (by omega)⟩
      rw [b_cons]
      refine Wp.bind ((first _ rfl).mono fun f S8 hf => ?_)
      obtain ⟨t, ys, rfl, hys, ht8⟩ := hf
      have fin : ∀ (one : List Int) (S9 : Store), lotOk (1 + v) one → Tn ns T (b + 4 + 10 * i + 9) S9 → Wp (exS (runF fs (k + 1)) (.set 4 (.bin .Add (.var 4) (.ite (.cmp .NotIn (.var 9) (.var 4)) (.lst (.cons (.var 9) .nil)) (.lst .nil)))) [some (lI ns), some (.cell 0), some (.int most), some (.int (1 + v)), some (.lst (found.map tI)), some (.int (1 + o)), some (.bl p), some d, t, some (tI one)] S9)
          (fun f S'' => ∃ found t1 t2 t3, f = .nx [some (lI ns), some (.cell 0), some (.int most), some (.int (1 + v)), some (.lst (found.map tI)), some (.int (1 + o)), some (.bl p), t1, t2, t3] ∧ Tn ns T (b + 4 + 10 * (i + 1)) S'' ∧ (∀ s ∈ found, lotOk (1 + v) s) ∧ found.Nodup ∧ found.length ≤ i + 1 ∧ (0 < i + 1 → found ≠ [])) := by
        intro one S9 ho ht9
        simp only [e_var, e_cst, e_ty, e_gfn, e_bin, e_cmp, e_chn, e_neg, e_nt, e_one, e_and, e_or, e_ite, e_tup, e_lst, e_idx, e_slc, o_none, o_some, e_call, e_blt, e_isi, a_nil, a_cons, i_of, i_rng, c_none, c_some, s_set, s_setLc, s_asg, s_par, s_stI, s_ex, s_ret, s_if, s_rai, s_pass, b_nil, b_cons, M.opt_some, R.bind_ok, getE_0, getE_s, List.map_cons, List.map_nil, List.cons_append, List.nil_append, List.length_cons, List.length_nil, List.replicate_succ, List.replicate_zero, Nat.reduceSub, Nat.reduceAdd, List.set_cons_zero, List.set_cons_succ, Option.map_some, BT.nm, wipeE, seqK_n, seqK_r, andK_t, andK_f, orK_f, orK_t, iteK_t, iteK_f, asgK_nm, asgK_t2, asgK_t3, endF_n, endF_r, slI_i, toBl_b, vw_i, vw_b, vw_t, vw_tI, vw_tT, vw_l, vw_s, vw_n, vw_ty, src_t, src_tI, src_tT, src_l, bin_add, bin_sub, neg_i, not_b, R.bind_assoc, e_lst, cni_lT]
        by_cases hin : one ∈ found
        · simp only [decide_eq_true hin, Bool.not_true, e_var, e_cst, e_ty, e_gfn, e_bin, e_cmp, e_chn, e_neg, e_nt, e_one, e_and, e_or, e_ite, e_tup, e_lst, e_idx, e_slc, o_none, o_some, e_call, e_blt, e_isi, a_nil, a_cons, i_of, i_rng, c_none, c_some, s_set, s_setLc, s_asg, s_par, s_stI, s_ex, s_ret, s_if, s_rai, s_pass, b_nil, b_cons, M.opt_some, R.bind_ok, getE_0, getE_s, List.map_cons, List.map_nil, List.cons_append, List.nil_append, List.length_cons, List.length_nil, List.replicate_succ, List.replicate_zero, Nat.reduceSub, Nat.reduceAdd, List.set_cons_zero, List.set_cons_succ, Option.map_some, BT.nm, wipeE, seqK_n, seqK_r, andK_t, andK_f, orK_f, orK_t, iteK_t, iteK_f, asgK_nm, asgK_t2, asgK_t3, endF_n, endF_r, slI_i, toBl_b, vw_i, vw_b, vw_t, vw_tI, vw_tT, vw_l, vw_s, vw_n, vw_ty, src_t, src_tI, src_tT, src_l, bin_add, bin_sub, neg_i, not_b, R.bind_assoc, e_lst]
          rw [bin_addL (by
            rw [List.length_map]
            show found.length + 0 ≤ 16777216
            omega)]
          simp only [e_var, e_cst, e_ty, e_gfn, e_bin, e_cmp, e_chn, e_neg, e_nt, e_one, e_and, e_or, e_ite, e_tup, e_lst, e_idx, e_slc, o_none, o_some, e_call, e_blt, e_isi, a_nil, a_cons, i_of, i_rng, c_none, c_some, s_set, s_setLc, s_asg, s_par, s_stI, s_ex, s_ret, s_if, s_rai, s_pass, b_nil, b_cons, M.opt_some, R.bind_ok, getE_0, getE_s, List.map_cons, List.map_nil, List.cons_append, List.nil_append, List.length_cons, List.length_nil, List.replicate_succ, List.replicate_zero, Nat.reduceSub, Nat.reduceAdd, List.set_cons_zero, List.set_cons_succ, Option.map_some, BT.nm, wipeE, seqK_n, seqK_r, andK_t, andK_f, orK_f, orK_t, iteK_t, iteK_f, asgK_nm, asgK_t2, asgK_t3, endF_n, endF_r, slI_i, toBl_b, vw_i, vw_b, vw_t, vw_tI, vw_tT, vw_l, vw_s, vw_n, vw_ty, src_t, src_tI, src_tT, src_l, bin_add, bin_sub, neg_i, not_b, R.bind_assoc, List.append_nil]
          exact ⟨found, _, _, _, rfl, ht9.mono (by omega), g1, g2, by omega, fun _ z => by rw [z] at hin; cases hin⟩
        · simp only [decide_eq_false hin, Bool.not_false, e_var, e_cst, e_ty, e_gfn, e_bin, e_cmp, e_chn, e_neg, e_nt, e_one, e_and, e_or, e_ite, e_tup, e_lst, e_idx, e_slc, o_none, o_some, e_call, e_blt, e_isi, a_nil, a_cons, i_of, i_rng, c_none, c_some, s_set, s_setLc, s_asg, s_par, s_stI, s_ex, s_ret, s_if, s_rai, s_pass, b_nil, b_cons, M.opt_some, R.bind_ok, getE_0, getE_s, List.map_cons, List.map_nil, List.cons_append, List.nil_append, List.length_cons, List.length_nil, List.replicate_succ, List.replicate_zero, Nat.reduceSub, Nat.reduceAdd, List.set_cons_zero, List.set_cons_succ, Option.map_some, BT.nm, wipeE, seqK_n, seqK_r, andK_t, andK_f, orK_f, orK_t, iteK_t, iteK_f, asgK_nm, asgK_t2, asgK_t3, endF_n, endF_r, slI_i, toBl_b, vw_i, vw_b, vw_t, vw_tI, vw_tT, vw_l, vw_s, vw_n, vw_ty, src_t, src_tI, src_tT, src_l, bin_add, bin_sub, neg_i, not_b, R.bind_assoc, e_lst]
          rw [bin_addL (by
            rw [List.length_map]
            show found.length + 1 ≤ 16777216
            omega)]
          simp only [e_var, e_cst, e_ty, e_gfn, e_bin, e_cmp, e_chn, e_neg, e_nt, e_one, e_and, e_or, e_ite, e_tup, e_lst, e_idx, e_slc, o_none, o_some, e_call, e_blt, e_isi, a_nil, a_cons, i_of, i_rng, c_none, c_some, s_set, s_setLc, s_asg, s_par, s_stI, s_ex, s_ret, s_if, s_rai, s_pass, b_nil, b_cons, M.opt_some, R.bind_ok, getE_0, getE_s, List.map_cons, List.map_nil, List.cons_append, List.nil_append, List.length_cons, List.length_nil, List.replicate_succ, List.replicate_zero, Nat.reduceSub, Nat.reduceAdd, List.set_cons_zero, List.set_cons_succ, Option.map_some, BT.nm, wipeE, seqK_n, seqK_r, andK_t, andK_f, orK_f, orK_t, iteK_t, iteK_f, asgK_nm, asgK_t2, asgK_t3, endF_n, endF_r, slI_i, toBl_b, vw_i, vw_b, vw_t, vw_tI, vw_tT, vw_l, vw_s, vw_n, vw_ty, src_t, src_tI, src_tT, src_l, bin_add, bin_sub, neg_i, not_b, R.bind_assoc]
          have e9 : found.map tI ++ [tI one] = (found ++ [one]).map tI := by simp
          rw [e9]
          refine ⟨found ++ [one], _, _, _, rfl, ht9.mono (by omega), fun s hs => ?_, ?_, by simp; omega, by simp⟩
          · rcases List.mem_append.mp hs with hs | hs
            · exact g1 s hs
            · simp at hs
              subst hs
              exact ho
          · rw [List.nodup_append]
            refine ⟨g2, by simp, fun a ha b hb => ?_⟩
            simp at hb
            subst hb
            rintro rfl
            exact hin ha
      have snd : Wp (exS (runF fs (k + 1)) (.set 9 (.blt .tuple (.cons (.ite (.cmp .NotEq (.var 9) (.lst .nil)) (.var 9) (.lst (.cons (.call "_law_draw" (.cons (.var 0) (.cons (.var 1) (.cons (.var 3) .nil)))) .nil))) .nil))) [some (lI ns), some (.cell 0), some (.int most), some (.int (1 + v)), some (.lst (found.map tI)), some (.int (1 + o)), some (.bl p), some d, t, some (.lst (ys.map D.int))] S8)
          (fun f S9 => ∃ one, f = .nx [some (lI ns), some (.cell 0), some (.int most), some (.int (1 + v)), some (.lst (found.map tI)), some (.int (1 + o)), some (.bl p), some d, t, some (tI one)] ∧ lotOk (1 + v) one ∧ Tn ns T (b + 4 + 10 * i + 9) S9) := by
        by_cases hy : ys = []
        · have hy0 : decide (ys = []) = true := decide_eq_true hy
          simp only [e_var, e_cst, e_ty, e_gfn, e_bin, e_cmp, e_chn, e_neg, e_nt, e_one, e_and, e_or, e_ite, e_tup, e_lst, e_idx, e_slc, o_none, o_some, e_call, e_blt, e_isi, a_nil, a_cons, i_of, i_rng, c_none, c_some, s_set, s_setLc, s_asg, s_par, s_stI, s_ex, s_ret, s_if, s_rai, s_pass, b_nil, b_cons, M.opt_some, R.bind_ok, getE_0, getE_s, List.map_cons, List.map_nil, List.cons_append, List.nil_append, List.length_cons, List.length_nil, List.replicate_succ, List.replicate_zero, Nat.reduceSub, Nat.reduceAdd, List.set_cons_zero, List.set_cons_succ, Option.map_some, BT.nm, wipeE, seqK_n, seqK_r, andK_t, andK_f, orK_f, orK_t, iteK_t, iteK_f, asgK_nm, asgK_t2, asgK_t3, endF_n, endF_r, slI_i, toBl_b, vw_i, vw_b, vw_t, vw_tI, vw_tT, vw_l, vw_s, vw_n, vw_ty, src_t, src_tI, src_tT, src_l, bin_add, bin_sub, neg_i, not_b, R.bind_assoc, e_lst, cne_l0, hy0, Bool.not_true]
          refine Wp.bind ((r_draw h (lim := 1 + v) (by omega) (by omega) ht8).mono fun d9 S9 hd => ?_)
          obtain ⟨q, rfl, q0, q1, ht9⟩ := hd
          simp only [tup_l, e_var, e_cst, e_ty, e_gfn, e_bin, e_cmp, e_chn, e_neg, e_nt, e_one, e_and, e_or, e_ite, e_tup, e_lst, e_idx, e_slc, o_none, o_some, e_call, e_blt, e_isi, a_nil, a_cons, i_of, i_rng, c_none, c_some, s_set, s_setLc, s_asg, s_par, s_stI, s_ex, s_ret, s_if, s_rai, s_pass, b_nil, b_cons, M.opt_some, R.bind_ok, getE_0, getE_s, List.map_cons, List.map_nil, List.cons_append, List.nil_append, List.length_cons, List.length_nil, List.replicate_succ, List.replicate_zero, Nat.reduceSub, Nat.reduceAdd, List.set_cons_zero, List.set_cons_succ, Option.map_some, BT.nm, wipeE, seqK_n, seqK_r, andK_t, andK_f, orK_f, orK_t, iteK_t, iteK_f, asgK_nm, asgK_t2, asgK_t3, endF_n, endF_r, slI_i, toBl_b, vw_i, vw_b, vw_t, vw_tI, vw_tT, vw_l, vw_s, vw_n, vw_ty, src_t, src_tI, src_tT, src_l, bin_add, bin_sub, neg_i, not_b, R.bind_assoc]
          exact ⟨[q], rfl, ⟨by simp, by simp; omega, by simp⟩, ht9⟩
        · have hy0 : decide (ys = []) = false := decide_eq_false hy
          simp only [e_var, e_cst, e_ty, e_gfn, e_bin, e_cmp, e_chn, e_neg, e_nt, e_one, e_and, e_or, e_ite, e_tup, e_lst, e_idx, e_slc, o_none, o_some, e_call, e_blt, e_isi, a_nil, a_cons, i_of, i_rng, c_none, c_some, s_set, s_setLc, s_asg, s_par, s_stI, s_ex, s_ret, s_if, s_rai, s_pass, b_nil, b_cons, M.opt_some, R.bind_ok, getE_0, getE_s, List.map_cons, List.map_nil, List.cons_append, List.nil_append, List.length_cons, List.length_nil, List.replicate_succ, List.replicate_zero, Nat.reduceSub, Nat.reduceAdd, List.set_cons_zero, List.set_cons_succ, Option.map_some, BT.nm, wipeE, seqK_n, seqK_r, andK_t, andK_f, orK_f, orK_t, iteK_t, iteK_f, asgK_nm, asgK_t2, asgK_t3, endF_n, endF_r, slI_i, toBl_b, vw_i, vw_b, vw_t, vw_tI, vw_tT, vw_l, vw_s, vw_n, vw_ty, src_t, src_tI, src_tT, src_l, bin_add, bin_sub, neg_i, not_b, R.bind_assoc, e_lst, cne_l0, hy0, Bool.not_false, tup_l]
          exact ⟨ys, rfl, hys hy, ht8.mono (by omega)⟩
      simp only [seqK_n]
      rw [b_cons]
      refine Wp.bind (snd.mono fun f S9 hf => ?_)
      obtain ⟨one, rfl, ho, ht9⟩ := hf
      simp only [seqK_n]
      rw [b_cons]
      refine Wp.bind ((fin one S9 ho ht9).mono fun f S10 hf => ?_)
      obtain ⟨found', u1, u2, u3, rfl, g⟩ := hf
      simp only [seqK_n, b_nil]
      exact ⟨found', u1, u2, u3, rfl, g⟩
    · rw [List.length_map, List.length_range] at hI
      obtain ⟨found, t1, t2, t3, rfl, ht5, g1, g2, g3, g4⟩ := hI
      exact ⟨found, t1, t2, t3, rfl, ht5.mono (by omega), g1, g2, by omega, g4 (by omega)⟩
  have mid : Wp (andK (.bl (decide (2 < 1 + v))) (fun S1 => (runF fs (k + 1) "_law_draw" [lI ns, .cell 0, .int 2] S1).bind fun x S1 => M.opt (cmpB CmpOp.Eq (vw S1 x) (.int 0)) S1) S2) (fun d S3 => ∃ p : Bool, d = .bl p ∧ (p = true → 2 < 1 + v) ∧ Tn ns T (b + 3) S3) := by
    by_cases h2 : 2 < 1 + v
    · simp only [decide_eq_true h2, andK_t]
      refine Wp.bind ((r_draw h (lim := 2) (by omega) (by omega) ht2).mono fun d S3 hd => ?_)
      obtain ⟨q, rfl, q0, q1, ht3⟩ := hd
      simp only [e_var, e_cst, e_ty, e_gfn, e_bin, e_cmp, e_chn, e_neg, e_nt, e_one, e_and, e_or, e_ite, e_tup, e_lst, e_idx, e_slc, o_none, o_some, e_call, e_blt, e_isi, a_nil, a_cons, i_of, i_rng, c_none, c_some, s_set, s_setLc, s_asg, s_par, s_stI, s_ex, s_ret, s_if, s_rai, s_pass, b_nil, b_cons, M.opt_some, R.bind_ok, getE_0, getE_s, List.map_cons, List.map_nil, List.cons_append, List.nil_append, List.length_cons, List.length_nil, List.replicate_succ, List.replicate_zero, Nat.reduceSub, Nat.reduceAdd, List.set_cons_zero, List.set_cons_succ, Option.map_some, BT.nm, wipeE, seqK_n, seqK_r, andK_t, andK_f, orK_f, orK_t, iteK_t, iteK_f, asgK_nm, asgK_t2, asgK_t3, endF_n, endF_r, slI_i, toBl_b, vw_i, vw_b, vw_t, vw_tI, vw_tT, vw_l, vw_s, vw_n, vw_ty, src_t, src_tI, src_tT, src_l, bin_add, bin_sub, neg_i, not_b, R.bind_assoc, ceq_i]
      exact ⟨_, rfl, fun _ => h2, ht3⟩
    · simp only [decide_eq_false h2, andK_f]
      exact ⟨_, rfl, fun z => (by cases z), ht2.mono (by omega)⟩
  refine Wp.bind (mid.mono fun d S3 hd => ?_)
  obtain ⟨p, rfl, hp, ht3⟩ := hd
  refine Wp.bind ((key p S3 hp ht3).mono fun f S4 hf => ?_)
  obtain ⟨found, t1, t2, t3, rfl, ht4, g1, g2, g3, g4⟩ := hf
  obtain ⟨ys, e1, e2, e3⟩ := sortD_tI found
  simp only [e_var, e_cst, e_ty, e_gfn, e_bin, e_cmp, e_chn, e_neg, e_nt, e_one, e_and, e_or, e_ite, e_tup, e_lst, e_idx, e_slc, o_none, o_some, e_call, e_blt, e_isi, a_nil, a_cons, i_of, i_rng, c_none, c_some, s_set, s_setLc, s_asg, s_par, s_stI, s_ex, s_ret, s_if, s_rai, s_pass, b_nil, b_cons, M.opt_some, R.bind_ok, getE_0, getE_s, List.map_cons, List.map_nil, List.cons_append, List.nil_append, List.length_cons, List.length_nil, List.replicate_succ, List.replicate_zero, Nat.reduceSub, Nat.reduceAdd, List.set_cons_zero, List.set_cons_succ, Option.map_some, BT.nm, wipeE, seqK_n, seqK_r, andK_t, andK_f, orK_f, orK_t, iteK_t, iteK_f, asgK_nm, asgK_t2, asgK_t3, endF_n, endF_r, slI_i, toBl_b, vw_i, vw_b, vw_t, vw_tI, vw_tT, vw_l, vw_s, vw_n, vw_ty, src_t, src_tI, src_tT, src_l, bin_add, bin_sub, neg_i, not_b, R.bind_assoc]
  rw [sorted_l (sortOk_tI found fun x hx => (g1 x hx).1), e1]
  simp only [e_var, e_cst, e_ty, e_gfn, e_bin, e_cmp, e_chn, e_neg, e_nt, e_one, e_and, e_or, e_ite, e_tup, e_lst, e_idx, e_slc, o_none, o_some, e_call, e_blt, e_isi, a_nil, a_cons, i_of, i_rng, c_none, c_some, s_set, s_setLc, s_asg, s_par, s_stI, s_ex, s_ret, s_if, s_rai, s_pass, b_nil, b_cons, M.opt_some, R.bind_ok, getE_0, getE_s, List.map_cons, List.map_nil, List.cons_append, List.nil_append, List.length_cons, List.length_nil, List.replicate_succ, List.replicate_zero, Nat.reduceSub, Nat.reduceAdd, List.set_cons_zero, List.set_cons_succ, Option.map_some, BT.nm, wipeE, seqK_n, seqK_r, andK_t, andK_f, orK_f, orK_t, iteK_t, iteK_f, asgK_nm, asgK_t2, asgK_t3, endF_n, endF_r, slI_i, toBl_b, vw_i, vw_b, vw_t, vw_tI, vw_tT, vw_l, vw_s, vw_n, vw_ty, src_t, src_tI, src_tT, src_l, bin_add, bin_sub, neg_i, not_b, R.bind_assoc, tup_l]
  refine ⟨1 + v, ys, rfl, by omega, ⟨by omega, by omega, fun z => ?_, ?_, fun s hs => g1 s (e2.mem_iff.mp hs), ?_⟩, ht4⟩
  · subst z
    exact g4 (List.length_eq_zero_iff.mp e2.length_eq.symm)
  · rw [e2.length_eq]; exact g3
  · have hd : ys.Nodup := e2.nodup_iff.mpr g2
    refine e3.imp₂ (fun x y h1 h2 => ?_) hd
    cases hq : HT.lexLt x y with
    | true => rfl
    | false => exact absurd (lexLt_tri x y hq h1) h2
/-- draws colours -/
theorem r_hues (h : DrawOk fs) (h' : fs "_law_hues" = some ⟨3, 4, b__law_hues⟩) {n : Int} (hn : 1 ≤ n ∧ n ≤ 7) (hb : b ≤ 900000) (ht : Tn ns T b S) :
    Wp (runF fs (k + 2) "_law_hues" [lI ns, .cell 0, .int n] S) (fun d S' => ∃ c, d = tI c ∧ hueOk n c ∧ Tn ns T (b + 7) S') := by
  rw [rf_eq h']
  simp only [b__law_hues, e_var, e_cst, e_ty, e_gfn, e_bin, e_cmp, e_chn, e_neg, e_nt, e_one, e_and, e_or, e_ite, e_tup, e_lst, e_idx, e_slc, o_none, o_some, e_call, e_blt, e_isi, a_nil, a_cons, i_of, i_rng, c_none, c_some, s_set, s_setLc, s_asg, s_par, s_stI, s_ex, s_ret, s_if, s_rai, s_pass, b_nil, b_cons, M.opt_some, R.bind_ok, getE_0, getE_s, List.map_cons, List.map_nil, List.cons_append, List.nil_append, List.length_cons, List.length_nil, List.replicate_succ, List.replicate_zero, Nat.reduceSub, Nat.reduceAdd, List.set_cons_zero, List.set_cons_succ, Option.map_some, BT.nm, wipeE, seqK_n, seqK_r, andK_t, andK_f, orK_f, orK_t, iteK_t, iteK_f, asgK_nm, asgK_t2, asgK_t3, endF_n, endF_r, slI_i, toBl_b, vw_i, vw_b, vw_t, vw_tI, vw_tT, vw_l, vw_s, vw_n, vw_ty, src_t, src_tI, src_tT, src_l, bin_add, bin_sub, neg_i, not_b, R.bind_assoc]
  refine Wp.bind ((lcE_wp (xs := (List.range n.toNat).map fun i : Nat => D.int (i : Int)) (S1 := S) (by
    simp only [e_var, e_cst, e_ty, e_gfn, e_bin, e_cmp, e_chn, e_neg, e_nt, e_one, e_and, e_or, e_ite, e_tup, e_lst, e_idx, e_slc, o_none, o_some, e_call, e_blt, e_isi, a_nil, a_cons, i_of, i_rng, c_none, c_some, s_set, s_setLc, s_asg, s_par, s_stI, s_ex, s_ret, s_if, s_rai, s_pass, b_nil, b_cons, M.opt_some, R.bind_ok, getE_0, getE_s, List.map_cons, List.map_nil, List.cons_append, List.nil_append, List.length_cons, List.length_nil, List.replicate_succ, List.replicate_zero, Nat.reduceSub, Nat.reduceAdd, List.set_cons_zero, List.set_cons_succ, Option.map_some, BT.nm, wipeE, seqK_n, seqK_r, andK_t, andK_f, orK_f, orK_t, iteK_t, iteK_f, asgK_nm, asgK_t2, asgK_t3, endF_n, endF_r, slI_i, toBl_b, vw_i, vw_b, vw_t, vw_tI, vw_tT, vw_l, vw_s, vw_n, vw_ty, src_t, src_tI, src_tT, src_l, bin_add, bin_sub, neg_i, not_b, R.bind_assoc]
    rw [rng_1 (by omega), rangeD_n]
    simp only [e_var, e_cst, e_ty, e_gfn, e_bin, e_cmp, e_chn, e_neg, e_nt, e_one, e_and, e_or, e_ite, e_tup, e_lst, e_idx, e_slc, o_none, o_some, e_call, e_blt, e_isi, a_nil, a_cons, i_of, i_rng, c_none, c_some, s_set, s_setLc, s_asg, s_par, s_stI, s_ex, s_ret, s_if, s_rai, s_pass, b_nil, b_cons, M.opt_some, R.bind_ok, getE_0, getE_s, List.map_cons, List.map_nil, List.cons_append, List.nil_append, List.length_cons, List.length_nil, List.replicate_succ, List.replicate_zero, Nat.reduceSub, Nat.reduceAdd, List.set_cons_zero, List.set_cons_succ, Option.map_some, BT.nm, wipeE, seqK_n, seqK_r, andK_t, andK_f, orK_f, orK_t, iteK_t, iteK_f, asgK_nm, asgK_t2, asgK_t3, endF_n, endF_r, slI_i, toBl_b, vw_i, vw_b, vw_t, vw_tI, vw_tT, vw_l, vw_s, vw_n, vw_ty, src_t, src_tI, src_tT, src_l, bin_add, bin_sub, neg_i, not_b, R.bind_assoc]) (fun i acc S' => ∃ c : List Int, acc = c.map D.int ∧ c.length = i ∧ (∀ x ∈ c, x = -1 ∨ x = 1) ∧ Tn ns T (b + i) S') ⟨[], rfl, rfl, by simp, ht⟩ fun i d acc S' hx hI => ?_).mono fun d S2 hd => ?_)
  · obtain ⟨c, rfl, hl, hc, ht2⟩ := hI
    have hi : i < n.toNat := by
      have := (List.getElem?_eq_some_iff.mp hx).1
      simpa using this
    refine ⟨_, rfl, ?_⟩
    simp only [e_var, e_cst, e_ty, e_gfn, e_bin, e_cmp, e_chn, e_neg, e_nt, e_one, e_and, e_or, e_ite, e_tup, e_lst, e_idx, e_slc, o_none, o_some, e_call, e_blt, e_isi, a_nil, a_cons, i_of, i_rng, c_none, c_some, s_set, s_setLc, s_asg, s_par, s_stI, s_ex, s_ret, s_if, s_rai, s_pass, b_nil, b_cons, M.opt_some, R.bind_ok, getE_0, getE_s, List.map_cons, List.map_nil, List.cons_append, List.nil_append, List.length_cons, List.length_nil, List.replicate_succ, List.replicate_zero, Nat.reduceSub, Nat.reduceAdd, List.set_cons_zero, List.set_cons_succ, Option.map_some, BT.nm, wipeE, seqK_n, seqK_r, andK_t, andK_f, orK_f, orK_t, iteK_t, iteK_f, asgK_nm, asgK_t2, asgK_t3, endF_n, endF_r, slI_i, toBl_b, vw_i, vw_b, vw_t, vw_tI, vw_tT, vw_l, vw_s, vw_n, vw_ty, src_t, src_tI, src_tT, src_l, bin_add, bin_sub, neg_i, not_b, R.bind_assoc]
    refine Wp.ok ?_
    rw [if_pos rfl]
    refine Wp.bind ((r_draw h (lim := 2) (by omega) (by omega) ht2).mono fun d S3 hd => ?_)
    obtain ⟨v, rfl, v0, v1, ht3⟩ := hd
    simp only [e_var, e_cst, e_ty, e_gfn, e_bin, e_cmp, e_chn, e_neg, e_nt, e_one, e_and, e_or, e_ite, e_tup, e_lst, e_idx, e_slc, o_none, o_some, e_call, e_blt, e_isi, a_nil, a_cons, i_of, i_rng, c_none, c_some, s_set, s_setLc, s_asg, s_par, s_stI, s_ex, s_ret, s_if, s_rai, s_pass, b_nil, b_cons, M.opt_some, R.bind_ok, getE_0, getE_s, List.map_cons, List.map_nil, List.cons_append, List.nil_append, List.length_cons, List.length_nil, List.replicate_succ, List.replicate_zero, Nat.reduceSub, Nat.reduceAdd, List.set_cons_zero, List.set_cons_succ, Option.map_some, BT.nm, wipeE, seqK_n, seqK_r, andK_t, andK_f, orK_f, orK_t, iteK_t, iteK_f, asgK_nm, asgK_t2, asgK_t3, endF_n, endF_r, slI_i, toBl_b, vw_i, vw_b, vw_t, vw_tI, vw_tT, vw_l, vw_s, vw_n, vw_ty, src_t, src_tI, src_tT, src_l, bin_add, bin_sub, neg_i, not_b, R.bind_assoc]
    have hv : v = 0 ∨ v = 1 := by omega
    rw [bin_mul (by rcases hv with rfl | rfl <;> decide)]
    simp only [e_var, e_cst, e_ty, e_gfn, e_bin, e_cmp, e_chn, e_neg, e_nt, e_one, e_and, e_or, e_ite, e_tup, e_lst, e_idx, e_slc, o_none, o_some, e_call, e_blt, e_isi, a_nil, a_cons, i_of, i_rng, c_none, c_some, s_set, s_setLc, s_asg, s_par, s_stI, s_ex, s_ret, s_if, s_rai, s_pass, b_nil, b_cons, M.opt_some, R.bind_ok, getE_0, getE_s, List.map_cons, List.map_nil, List.cons_append, List.nil_append, List.length_cons, List.length_nil, List.replicate_succ, List.replicate_zero, Nat.reduceSub, Nat.reduceAdd, List.set_cons_zero, List.set_cons_succ, Option.map_some, BT.nm, wipeE, seqK_n, seqK_r, andK_t, andK_f, orK_f, orK_t, iteK_t, iteK_f, asgK_nm, asgK_t2, asgK_t3, endF_n, endF_r, slI_i, toBl_b, vw_i, vw_b, vw_t, vw_tI, vw_tT, vw_l, vw_s, vw_n, vw_ty, src_t, src_tI, src_tT, src_l, bin_add, bin_sub, neg_i, not_b, R.bind_assoc]
    refine ⟨c ++ [2 * v - 1], by simp, by simp [hl], fun x hx => ?_, ht3.mono (by omega)⟩
    rcases List.mem_append.mp hx with hx | hx
    · exact hc x hx
    · simp at hx
      omega
  · obtain ⟨ys, rfl, c, rfl, hl, hc, ht2⟩ := hd
    rw [List.length_map, List.length_range] at hl ht2
    simp only [e_var, e_cst, e_ty, e_gfn, e_bin, e_cmp, e_chn, e_neg, e_nt, e_one, e_and, e_or, e_ite, e_tup, e_lst, e_idx, e_slc, o_none, o_some, e_call, e_blt, e_isi, a_nil, a_cons, i_of, i_rng, c_none, c_some, s_set, s_setLc, s_asg, s_par, s_stI, s_ex, s_ret, s_if, s_rai, s_pass, b_nil, b_cons, M.opt_some, R.bind_ok, getE_0, getE_s, List.map_cons, List.map_nil, List.cons_append, List.nil_append, List.length_cons, List.length_nil, List.replicate_succ, List.replicate_zero, Nat.reduceSub, Nat.reduceAdd, List.set_cons_zero, List.set_cons_succ, Option.map_some, BT.nm, wipeE, seqK_n, seqK_r, andK_t, andK_f, orK_f, orK_t, iteK_t, iteK_f, asgK_nm, asgK_t2, asgK_t3, endF_n, endF_r, slI_i, toBl_b, vw_i, vw_b, vw_t, vw_tI, vw_tT, vw_l, vw_s, vw_n, vw_ty, src_t, src_tI, src_tT, src_l, bin_add, bin_sub, neg_i, not_b, R.bind_assoc, tup_l]
    exact ⟨c, rfl, ⟨by omega, hc⟩, ht2.mono (by omega)⟩
end
end LC

end
section
set_option maxHeartbeats 4000000
/-! P6: colours that are judged. -/
namespace LC
open PySem PySem.Spec PyProof.Rows L2
structure HasJ (fs : Str → Option Fn) : Prop extends HasC fs where
  are : fs "are_colours" = some ⟨2, 3, b_are_colours⟩
  isc : fs "is_colours" = some ⟨2, 2, b_is_colours⟩
  both : fs "check_both" = some ⟨2, 2, b_check_both⟩
  smz : fs "sums" = some ⟨2, 2, b_sums⟩
  une : fs "uneven" = some ⟨2, 2, b_uneven⟩
  lun : fs "least_uneven" = some ⟨1, 1, b_least_uneven⟩
  bst : fs "all_best" = some ⟨1, 3, b_all_best⟩
def isHue : D → Bool
  | .int i => decide (i = -1 ∨ i = 1)
  | _ => false
def plainD : D → Prop
  | .int _ => True
  | .bl _ => True
  | .str _ => True
  | _ => False
section
variable {fs : Str → Option Fn} {k : Nat} {S : Store} {n : Int} {ss : List (List Int)}
theorem r_least_uneven (h : HasJ fs) (F : FamOk n ss) : runF fs (k + 5) "least_uneven" [fam n ss] S = .ok (.int (least n.toNat ss)) S := by
  rw [rf_eq h.lun]
  simp only [b_least_uneven, e_var, e_cst, e_ty, e_gfn, e_bin, e_cmp, e_chn, e_neg, e_nt, e_one, e_and, e_or, e_ite, e_tup, e_lst, e_idx, e_slc, o_none, o_some, e_call, e_blt, e_isi, a_nil, a_cons, i_of, i_rng, c_none, c_some, s_set, s_setLc, s_asg, s_par, s_stI, s_ex, s_ret, s_if, s_rai, s_pass, b_nil, b_cons, M.opt_some, R.bind_ok, getE_0, getE_s, List.map_cons, List.map_nil, List.cons_append, List.nil_append, List.length_cons, List.length_nil, List.replicate_succ, List.replicate_zero, Nat.reduceSub, Nat.reduceAdd, List.set_cons_zero, List.set_cons_succ, Option.map_some, BT.nm, wipeE, seqK_n, seqK_r, andK_t, andK_f, orK_f, orK_t, iteK_t, iteK_f, asgK_nm, asgK_t2, asgK_t3, endF_n, endF_r, slI_i, toBl_b, vw_i, vw_b, vw_t, vw_tI, vw_tT, vw_l, vw_s, vw_n, vw_ty, src_t, src_tI, src_tT, src_l, bin_add, bin_sub, neg_i, not_b, R.bind_assoc]
  rw [r_check_family h.toHasF F]
  simp only [e_var, e_cst, e_ty, e_gfn, e_bin, e_cmp, e_chn, e_neg, e_nt, e_one, e_and, e_or, e_ite, e_tup, e_lst, e_idx, e_slc, o_none, o_some, e_call, e_blt, e_isi, a_nil, a_cons, i_of, i_rng, c_none, c_some, s_set, s_setLc, s_asg, s_par, s_stI, s_ex, s_ret, s_if, s_rai, s_pass, b_nil, b_cons, M.opt_some, R.bind_ok, getE_0, getE_s, List.map_cons, List.map_nil, List.cons_append, List.nil_append, List.length_cons, List.length_nil, List.replicate_succ, List.replicate_zero, Nat.reduceSub, Nat.reduceAdd, List.set_cons_zero, List.set_cons_succ, Option.map_some, BT.nm, wipeE, seqK_n, seqK_r, andK_t, andK_f, orK_f, orK_t, iteK_t, iteK_f, asgK_nm, asgK_t2, asgK_t3, endF_n, endF_r, slI_i, toBl_b, vw_i, vw_b, vw_t, vw_tI, vw_tT, vw_l, vw_s, vw_n, vw_ty, src_t, src_tI, src_tT, src_l, bin_add, bin_sub, neg_i, not_b, R.bind_assoc]
  rw [r_least h.toHasC F]
  simp only [e_var, e_cst, e_ty, e_gfn, e_bin, e_cmp, e_chn, e_neg, e_nt, e_one, e_and, e_or, e_ite, e_tup, e_lst, e_idx, e_slc, o_none, o_some, e_call, e_blt, e_isi, a_nil, a_cons, i_of, i_rng, c_none, c_some, s_set, s_setLc, s_asg, s_par, s_stI, s_ex, s_ret, s_if, s_rai, s_pass, b_nil, b_cons, M.opt_some, R.bind_ok, getE_0, getE_s, List.map_cons, List.map_nil, List.cons_append, List.nil_append, List.length_cons, List.length_nil, List.replicate_succ, List.replicate_zero, Nat.reduceSub, Nat.reduceAdd, List.set_cons_zero, List.set_cons_succ, Option.map_some, BT.nm, wipeE, seqK_n, seqK_r, andK_t, andK_f, orK_f, orK_t, iteK_t, iteK_f, asgK_nm, asgK_t2, asgK_t3, endF_n, endF_r, slI_i, toBl_b, vw_i, vw_b, vw_t, vw_tI, vw_tT, vw_l, vw_s, vw_n, vw_ty, src_t, src_tI, src_tT, src_l, bin_add, bin_sub, neg_i, not_b, R.bind_assoc]
theorem r_all_best (h : HasJ fs) (F : FamOk n ss) : runF fs (k + 5) "all_best" [fam n ss] S = .ok (tT ((rows n.toNat).filter fun c => decide (unev c ss = least n.toNat ss))) S := by
  have hlo := F.lo
  rw [rf_eq h.bst]
  simp only [b_all_best, e_var, e_cst, e_ty, e_gfn, e_bin, e_cmp, e_chn, e_neg, e_nt, e_one, e_and, e_or, e_ite, e_tup, e_lst, e_idx, e_slc, o_none, o_some, e_call, e_blt, e_isi, a_nil, a_cons, i_of, i_rng, c_none, c_some, s_set, s_setLc, s_asg, s_par, s_stI, s_ex, s_ret, s_if, s_rai, s_pass, b_nil, b_cons, M.opt_some, R.bind_ok, getE_0, getE_s, List.map_cons, List.map_nil, List.cons_append, List.nil_append, List.length_cons, List.length_nil, List.replicate_succ, List.replicate_zero, Nat.reduceSub, Nat.reduceAdd, List.set_cons_zero, List.set_cons_succ, Option.map_some, BT.nm, wipeE, seqK_n, seqK_r, andK_t, andK_f, orK_f, orK_t, iteK_t, iteK_f, asgK_nm, asgK_t2, asgK_t3, endF_n, endF_r, slI_i, toBl_b, vw_i, vw_b, vw_t, vw_tI, vw_tT, vw_l, vw_s, vw_n, vw_ty, src_t, src_tI, src_tT, src_l, bin_add, bin_sub, neg_i, not_b, R.bind_assoc]
  rw [r_check_family h.toHasF F]
  simp only [e_var, e_cst, e_ty, e_gfn, e_bin, e_cmp, e_chn, e_neg, e_nt, e_one, e_and, e_or, e_ite, e_tup, e_lst, e_idx, e_slc, o_none, o_some, e_call, e_blt, e_isi, a_nil, a_cons, i_of, i_rng, c_none, c_some, s_set, s_setLc, s_asg, s_par, s_stI, s_ex, s_ret, s_if, s_rai, s_pass, b_nil, b_cons, M.opt_some, R.bind_ok, getE_0, getE_s, List.map_cons, List.map_nil, List.cons_append, List.nil_append, List.length_cons, List.length_nil, List.replicate_succ, List.replicate_zero, Nat.reduceSub, Nat.reduceAdd, List.set_cons_zero, List.set_cons_succ, Option.map_some, BT.nm, wipeE, seqK_n, seqK_r, andK_t, andK_f, orK_f, orK_t, iteK_t, iteK_f, asgK_nm, asgK_t2, asgK_t3, endF_n, endF_r, slI_i, toBl_b, vw_i, vw_b, vw_t, vw_tI, vw_tT, vw_l, vw_s, vw_n, vw_ty, src_t, src_tI, src_tT, src_l, bin_add, bin_sub, neg_i, not_b, R.bind_assoc]
  rw [r_least h.toHasC F]
  simp only [e_var, e_cst, e_ty, e_gfn, e_bin, e_cmp, e_chn, e_neg, e_nt, e_one, e_and, e_or, e_ite, e_tup, e_lst, e_idx, e_slc, o_none, o_some, e_call, e_blt, e_isi, a_nil, a_cons, i_of, i_rng, c_none, c_some, s_set, s_setLc, s_asg, s_par, s_stI, s_ex, s_ret, s_if, s_rai, s_pass, b_nil, b_cons, M.opt_some, R.bind_ok, getE_0, getE_s, List.map_cons, List.map_nil, List.cons_append, List.nil_append, List.length_cons, List.length_nil, List.replicate_succ, List.replicate_zero, Nat.reduceSub, Nat.reduceAdd, List.set_cons_zero, List.set_cons_succ, Option.map_some, BT.nm, wipeE, seqK_n, seqK_r, andK_t, andK_f, orK_f, orK_t, iteK_t, iteK_f, asgK_nm, asgK_t2, asgK_t3, endF_n, endF_r, slI_i, toBl_b, vw_i, vw_b, vw_t, vw_tI, vw_tT, vw_l, vw_s, vw_n, vw_ty, src_t, src_tI, src_tT, src_l, bin_add, bin_sub, neg_i, not_b, R.bind_assoc]
  rw [lcE_eq (rows n.toNat) tI (fun c => decide (unev c ss = least n.toNat ss)) tI (by simp only [e_var, e_cst, e_ty, e_gfn, e_bin, e_cmp, e_chn, e_neg, e_nt, e_one, e_and, e_or, e_ite, e_tup, e_lst, e_idx, e_slc, o_none, o_some, e_call, e_blt, e_isi, a_nil, a_cons, i_of, i_rng, c_none, c_some, s_set, s_setLc, s_asg, s_par, s_stI, s_ex, s_ret, s_if, s_rai, s_pass, b_nil, b_cons, M.opt_some, R.bind_ok, getE_0, getE_s, List.map_cons, List.map_nil, List.cons_append, List.nil_append, List.length_cons, List.length_nil, List.replicate_succ, List.replicate_zero, Nat.reduceSub, Nat.reduceAdd, List.set_cons_zero, List.set_cons_succ, Option.map_some, BT.nm, wipeE, seqK_n, seqK_r, andK_t, andK_f, orK_f, orK_t, iteK_t, iteK_f, asgK_nm, asgK_t2, asgK_t3, endF_n, endF_r, slI_i, toBl_b, vw_i, vw_b, vw_t, vw_tI, vw_tT, vw_l, vw_s, vw_n, vw_ty, src_t, src_tI, src_tT, src_l, bin_add, bin_sub, neg_i, not_b, R.bind_assoc, fam, idx_t, atI_0]; rw [r_rows h.allc (n := n) (by omega) F.hi]; simp only [e_var, e_cst, e_ty, e_gfn, e_bin, e_cmp, e_chn, e_neg, e_nt, e_one, e_and, e_or, e_ite, e_tup, e_lst, e_idx, e_slc, o_none, o_some, e_call, e_blt, e_isi, a_nil, a_cons, i_of, i_rng, c_none, c_some, s_set, s_setLc, s_asg, s_par, s_stI, s_ex, s_ret, s_if, s_rai, s_pass, b_nil, b_cons, M.opt_some, R.bind_ok, getE_0, getE_s, List.map_cons, List.map_nil, List.cons_append, List.nil_append, List.length_cons, List.length_nil, List.replicate_succ, List.replicate_zero, Nat.reduceSub, Nat.reduceAdd, List.set_cons_zero, List.set_cons_succ, Option.map_some, BT.nm, wipeE, seqK_n, seqK_r, andK_t, andK_f, orK_f, orK_t, iteK_t, iteK_f, asgK_nm, asgK_t2, asgK_t3, endF_n, endF_r, slI_i, toBl_b, vw_i, vw_b, vw_t, vw_tI, vw_tT, vw_l, vw_s, vw_n, vw_ty, src_t, src_tI, src_tT, src_l, bin_add, bin_sub, neg_i, not_b, R.bind_assoc]) (fun c hc => ⟨_, rfl, by
    have hl := ((rows_ok _ c).mp hc).1
    simp only [e_var, e_cst, e_ty, e_gfn, e_bin, e_cmp, e_chn, e_neg, e_nt, e_one, e_and, e_or, e_ite, e_tup, e_lst, e_idx, e_slc, o_none, o_some, e_call, e_blt, e_isi, a_nil, a_cons, i_of, i_rng, c_none, c_some, s_set, s_setLc, s_asg, s_par, s_stI, s_ex, s_ret, s_if, s_rai, s_pass, b_nil, b_cons, M.opt_some, R.bind_ok, getE_0, getE_s, List.map_cons, List.map_nil, List.cons_append, List.nil_append, List.length_cons, List.length_nil, List.replicate_succ, List.replicate_zero, Nat.reduceSub, Nat.reduceAdd, List.set_cons_zero, List.set_cons_succ, Option.map_some, BT.nm, wipeE, seqK_n, seqK_r, andK_t, andK_f, orK_f, orK_t, iteK_t, iteK_f, asgK_nm, asgK_t2, asgK_t3, endF_n, endF_r, slI_i, toBl_b, vw_i, vw_b, vw_t, vw_tI, vw_tT, vw_l, vw_s, vw_n, vw_ty, src_t, src_tI, src_tT, src_l, bin_add, bin_sub, neg_i, not_b, R.bind_assoc]
    rw [r_uneven rfl h.sums h.unev F (c := c) (by omega)]
    simp only [e_var, e_cst, e_ty, e_gfn, e_bin, e_cmp, e_chn, e_neg, e_nt, e_one, e_and, e_or, e_ite, e_tup, e_lst, e_idx, e_slc, o_none, o_some, e_call, e_blt, e_isi, a_nil, a_cons, i_of, i_rng, c_none, c_some, s_set, s_setLc, s_asg, s_par, s_stI, s_ex, s_ret, s_if, s_rai, s_pass, b_nil, b_cons, M.opt_some, R.bind_ok, getE_0, getE_s, List.map_cons, List.map_nil, List.cons_append, List.nil_append, List.length_cons, List.length_nil, List.replicate_succ, List.replicate_zero, Nat.reduceSub, Nat.reduceAdd, List.set_cons_zero, List.set_cons_succ, Option.map_some, BT.nm, wipeE, seqK_n, seqK_r, andK_t, andK_f, orK_f, orK_t, iteK_t, iteK_f, asgK_nm, asgK_t2, asgK_t3, endF_n, endF_r, slI_i, toBl_b, vw_i, vw_b, vw_t, vw_tI, vw_tT, vw_l, vw_s, vw_n, vw_ty, src_t, src_tI, src_tT, src_l, bin_add, bin_sub, neg_i, not_b, R.bind_assoc, ceq_i], fun _ => by simp only [e_var, e_cst, e_ty, e_gfn, e_bin, e_cmp, e_chn, e_neg, e_nt, e_one, e_and, e_or, e_ite, e_tup, e_lst, e_idx, e_slc, o_none, o_some, e_call, e_blt, e_isi, a_nil, a_cons, i_of, i_rng, c_none, c_some, s_set, s_setLc, s_asg, s_par, s_stI, s_ex, s_ret, s_if, s_rai, s_pass, b_nil, b_cons, M.opt_some, R.bind_ok, getE_0, getE_s, List.map_cons, List.map_nil, List.cons_append, List.nil_append, List.length_cons, List.length_nil, List.replicate_succ, List.replicate_zero, Nat.reduceSub, Nat.reduceAdd, List.set_cons_zero, List.set_cons_succ, Option.map_some, BT.nm, wipeE, seqK_n, seqK_r, andK_t, andK_f, orK_f, orK_t, iteK_t, iteK_f, asgK_nm, asgK_t2, asgK_t3, endF_n, endF_r, slI_i, toBl_b, vw_i, vw_b, vw_t, vw_tI, vw_tT, vw_l, vw_s, vw_n, vw_ty, src_t, src_tI, src_tT, src_l, bin_add, bin_sub, neg_i, not_b, R.bind_assoc]⟩)]
  simp only [e_var, e_cst, e_ty, e_gfn, e_bin, e_cmp, e_chn, e_neg, e_nt, e_one, e_and, e_or, e_ite, e_tup, e_lst, e_idx, e_slc, o_none, o_some, e_call, e_blt, e_isi, a_nil, a_cons, i_of, i_rng, c_none, c_some, s_set, s_setLc, s_asg, s_par, s_stI, s_ex, s_ret, s_if, s_rai, s_pass, b_nil, b_cons, M.opt_some, R.bind_ok, getE_0, getE_s, List.map_cons, List.map_nil, List.cons_append, List.nil_append, List.length_cons, List.length_nil, List.replicate_succ, List.replicate_zero, Nat.reduceSub, Nat.reduceAdd, List.set_cons_zero, List.set_cons_succ, Option.map_some, BT.nm, wipeE, seqK_n, seqK_r, andK_t, andK_f, orK_f, orK_t, iteK_t, iteK_f, asgK_nm, asgK_t2, asgK_t3, endF_n, endF_r, slI_i, toBl_b, vw_i, vw_b, vw_t, vw_tI, vw_tT, vw_l, vw_s, vw_n, vw_ty, src_t, src_tI, src_tT, src_l, bin_add, bin_sub, neg_i, not_b, R.bind_assoc, tup_l]
  rfl
theorem r_are (h : HasJ fs) (xs : List D) (hp : ∀ x ∈ xs, plainD x) : runF fs (k + 1) "are_colours" [fam n ss, .tup xs] S = .ok (.bl (decide ((xs.length : Int) = n) && xs.all isHue)) S := by
  rw [rf_eq h.are]
  simp only [b_are_colours, e_var, e_cst, e_ty, e_gfn, e_bin, e_cmp, e_chn, e_neg, e_nt, e_one, e_and, e_or, e_ite, e_tup, e_lst, e_idx, e_slc, o_none, o_some, e_call, e_blt, e_isi, a_nil, a_cons, i_of, i_rng, c_none, c_some, s_set, s_setLc, s_asg, s_par, s_stI, s_ex, s_ret, s_if, s_rai, s_pass, b_nil, b_cons, M.opt_some, R.bind_ok, getE_0, getE_s, List.map_cons, List.map_nil, List.cons_append, List.nil_append, List.length_cons, List.length_nil, List.replicate_succ, List.replicate_zero, Nat.reduceSub, Nat.reduceAdd, List.set_cons_zero, List.set_cons_succ, Option.map_some, BT.nm, wipeE, seqK_n, seqK_r, andK_t, andK_f, orK_f, orK_t, iteK_t, iteK_f, asgK_nm, asgK_t2, asgK_t3, endF_n, endF_r, slI_i, toBl_b, vw_i, vw_b, vw_t, vw_tI, vw_tT, vw_l, vw_s, vw_n, vw_ty, src_t, src_tI, src_tT, src_l, bin_add, bin_sub, neg_i, not_b, R.bind_assoc, isi_tup, kit7, Bool.not_true, len_t, fam, idx_t, atI_0, cne_i]
  by_cases hl : (xs.length : Int) = n
  · simp only [decide_eq_true hl, Bool.not_true, e_var, e_cst, e_ty, e_gfn, e_bin, e_cmp, e_chn, e_neg, e_nt, e_one, e_and, e_or, e_ite, e_tup, e_lst, e_idx, e_slc, o_none, o_some, e_call, e_blt, e_isi, a_nil, a_cons, i_of, i_rng, c_none, c_some, s_set, s_setLc, s_asg, s_par, s_stI, s_ex, s_ret, s_if, s_rai, s_pass, b_nil, b_cons, M.opt_some, R.bind_ok, getE_0, getE_s, List.map_cons, List.map_nil, List.cons_append, List.nil_append, List.length_cons, List.length_nil, List.replicate_succ, List.replicate_zero, Nat.reduceSub, Nat.reduceAdd, List.set_cons_zero, List.set_cons_succ, Option.map_some, BT.nm, wipeE, seqK_n, seqK_r, andK_t, andK_f, orK_f, orK_t, iteK_t, iteK_f, asgK_nm, asgK_t2, asgK_t3, endF_n, endF_r, slI_i, toBl_b, vw_i, vw_b, vw_t, vw_tI, vw_tT, vw_l, vw_s, vw_n, vw_ty, src_t, src_tI, src_tT, src_l, bin_add, bin_sub, neg_i, not_b, R.bind_assoc]
    rw [lcE_map xs id (fun x => D.bl (isHue x)) (by simp only [e_var, e_cst, e_ty, e_gfn, e_bin, e_cmp, e_chn, e_neg, e_nt, e_one, e_and, e_or, e_ite, e_tup, e_lst, e_idx, e_slc, o_none, o_some, e_call, e_blt, e_isi, a_nil, a_cons, i_of, i_rng, c_none, c_some, s_set, s_setLc, s_asg, s_par, s_stI, s_ex, s_ret, s_if, s_rai, s_pass, b_nil, b_cons, M.opt_some, R.bind_ok, getE_0, getE_s, List.map_cons, List.map_nil, List.cons_append, List.nil_append, List.length_cons, List.length_nil, List.replicate_succ, List.replicate_zero, Nat.reduceSub, Nat.reduceAdd, List.set_cons_zero, List.set_cons_succ, Option.map_some, BT.nm, wipeE, seqK_n, seqK_r, andK_t, andK_f, orK_f, orK_t, iteK_t, iteK_f, asgK_nm, asgK_t2, asgK_t3, endF_n, endF_r, slI_i, toBl_b, vw_i, vw_b, vw_t, vw_tI, vw_tT, vw_l, vw_s, vw_n, vw_ty, src_t, src_tI, src_tT, src_l, bin_add, bin_sub, neg_i, not_b, R.bind_assoc, List.map_id]) (fun x hx => ⟨_, rfl, by
      have := hp x hx
      cases x with
      | int i =>
        simp only [id, e_var, e_cst, e_ty, e_gfn, e_bin, e_cmp, e_chn, e_neg, e_nt, e_one, e_and, e_or, e_ite, e_tup, e_lst, e_idx, e_slc, o_none, o_some, e_call, e_blt, e_isi, a_nil, a_cons, i_of, i_rng, c_none, c_some, s_set, s_setLc, s_asg, s_par, s_stI, s_ex, s_ret, s_if, s_rai, s_pass, b_nil, b_cons, M.opt_some, R.bind_ok, getE_0, getE_s, List.map_cons, List.map_nil, List.cons_append, List.nil_append, List.length_cons, List.length_nil, List.replicate_succ, List.replicate_zero, Nat.reduceSub, Nat.reduceAdd, List.set_cons_zero, List.set_cons_succ, Option.map_some, BT.nm, wipeE, seqK_n, seqK_r, andK_t, andK_f, orK_f, orK_t, iteK_t, iteK_f, asgK_nm, asgK_t2, asgK_t3, endF_n, endF_r, slI_i, toBl_b, vw_i, vw_b, vw_t, vw_tI, vw_tT, vw_l, vw_s, vw_n, vw_ty, src_t, src_tI, src_tT, src_l, bin_add, bin_sub, neg_i, not_b, R.bind_assoc, isi_int, kit1, kit2, Bool.not_false]
        have e := cin_tI i [-1, 1]
        simp only [tI, List.map_cons, List.map_nil] at e
        rw [e]
        simp only [e_var, e_cst, e_ty, e_gfn, e_bin, e_cmp, e_chn, e_neg, e_nt, e_one, e_and, e_or, e_ite, e_tup, e_lst, e_idx, e_slc, o_none, o_some, e_call, e_blt, e_isi, a_nil, a_cons, i_of, i_rng, c_none, c_some, s_set, s_setLc, s_asg, s_par, s_stI, s_ex, s_ret, s_if, s_rai, s_pass, b_nil, b_cons, M.opt_some, R.bind_ok, getE_0, getE_s, List.map_cons, List.map_nil, List.cons_append, List.nil_append, List.length_cons, List.length_nil, List.replicate_succ, List.replicate_zero, Nat.reduceSub, Nat.reduceAdd, List.set_cons_zero, List.set_cons_succ, Option.map_some, BT.nm, wipeE, seqK_n, seqK_r, andK_t, andK_f, orK_f, orK_t, iteK_t, iteK_f, asgK_nm, asgK_t2, asgK_t3, endF_n, endF_r, slI_i, toBl_b, vw_i, vw_b, vw_t, vw_tI, vw_tT, vw_l, vw_s, vw_n, vw_ty, src_t, src_tI, src_tT, src_l, bin_add, bin_sub, neg_i, not_b, R.bind_assoc, isHue]
        simp
      | bl b => simp only [id, e_var, e_cst, e_ty, e_gfn, e_bin, e_cmp, e_chn, e_neg, e_nt, e_one, e_and, e_or, e_ite, e_tup, e_lst, e_idx, e_slc, o_none, o_some, e_call, e_blt, e_isi, a_nil, a_cons, i_of, i_rng, c_none, c_some, s_set, s_setLc, s_asg, s_par, s_stI, s_ex, s_ret, s_if, s_rai, s_pass, b_nil, b_cons, M.opt_some, R.bind_ok, getE_0, getE_s, List.map_cons, List.map_nil, List.cons_append, List.nil_append, List.length_cons, List.length_nil, List.replicate_succ, List.replicate_zero, Nat.reduceSub, Nat.reduceAdd, List.set_cons_zero, List.set_cons_succ, Option.map_some, BT.nm, wipeE, seqK_n, seqK_r, andK_t, andK_f, orK_f, orK_t, iteK_t, iteK_f, asgK_nm, asgK_t2, asgK_t3, endF_n, endF_r, slI_i, toBl_b, vw_i, vw_b, vw_t, vw_tI, vw_tT, vw_l, vw_s, vw_n, vw_ty, src_t, src_tI, src_tT, src_l, bin_add, bin_sub, neg_i, not_b, R.bind_assoc, isi_bl, kit3, kit4, Bool.not_true, isHue]
      | str z => simp only [id, e_var, e_cst, e_ty, e_gfn, e_bin, e_cmp, e_chn, e_neg, e_nt, e_one, e_and, e_or, e_ite, e_tup, e_lst, e_idx, e_slc, o_none, o_some, e_call, e_blt, e_isi, a_nil, a_cons, i_of, i_rng, c_none, c_some, s_set, s_setLc, s_asg, s_par, s_stI, s_ex, s_ret, s_if, s_rai, s_pass, b_nil, b_cons, M.opt_some, R.bind_ok, getE_0, getE_s, List.map_cons, List.map_nil, List.cons_append, List.nil_append, List.length_cons, List.length_nil, List.replicate_succ, List.replicate_zero, Nat.reduceSub, Nat.reduceAdd, List.set_cons_zero, List.set_cons_succ, Option.map_some, BT.nm, wipeE, seqK_n, seqK_r, andK_t, andK_f, orK_f, orK_t, iteK_t, iteK_f, asgK_nm, asgK_t2, asgK_t3, endF_n, endF_r, slI_i, toBl_b, vw_i, vw_b, vw_t, vw_tI, vw_tT, vw_l, vw_s, vw_n, vw_ty, src_t, src_tI, src_tT, src_l, bin_add, bin_sub, neg_i, not_b, R.bind_assoc, isi_str, kit5, isHue]
      | _ => exact this.elim⟩)]
    simp only [e_var, e_cst, e_ty, e_gfn, e_bin, e_cmp, e_chn, e_neg, e_nt, e_one, e_and, e_or, e_ite, e_tup, e_lst, e_idx, e_slc, o_none, o_some, e_call, e_blt, e_isi, a_nil, a_cons, i_of, i_rng, c_none, c_some, s_set, s_setLc, s_asg, s_par, s_stI, s_ex, s_ret, s_if, s_rai, s_pass, b_nil, b_cons, M.opt_some, R.bind_ok, getE_0, getE_s, List.map_cons, List.map_nil, List.cons_append, List.nil_append, List.length_cons, List.length_nil, List.replicate_succ, List.replicate_zero, Nat.reduceSub, Nat.reduceAdd, List.set_cons_zero, List.set_cons_succ, Option.map_some, BT.nm, wipeE, seqK_n, seqK_r, andK_t, andK_f, orK_f, orK_t, iteK_t, iteK_f, asgK_nm, asgK_t2, asgK_t3, endF_n, endF_r, slI_i, toBl_b, vw_i, vw_b, vw_t, vw_tI, vw_tT, vw_l, vw_s, vw_n, vw_ty, src_t, src_tI, src_tT, src_l, bin_add, bin_sub, neg_i, not_b, R.bind_assoc, all_m, Bool.true_and]
  · simp only [decide_eq_false hl, Bool.not_false, e_var, e_cst, e_ty, e_gfn, e_bin, e_cmp, e_chn, e_neg, e_nt, e_one, e_and, e_or, e_ite, e_tup, e_lst, e_idx, e_slc, o_none, o_some, e_call, e_blt, e_isi, a_nil, a_cons, i_of, i_rng, c_none, c_some, s_set, s_setLc, s_asg, s_par, s_stI, s_ex, s_ret, s_if, s_rai, s_pass, b_nil, b_cons, M.opt_some, R.bind_ok, getE_0, getE_s, List.map_cons, List.map_nil, List.cons_append, List.nil_append, List.length_cons, List.length_nil, List.replicate_succ, List.replicate_zero, Nat.reduceSub, Nat.reduceAdd, List.set_cons_zero, List.set_cons_succ, Option.map_some, BT.nm, wipeE, seqK_n, seqK_r, andK_t, andK_f, orK_f, orK_t, iteK_t, iteK_f, asgK_nm, asgK_t2, asgK_t3, endF_n, endF_r, slI_i, toBl_b, vw_i, vw_b, vw_t, vw_tI, vw_tT, vw_l, vw_s, vw_n, vw_ty, src_t, src_tI, src_tT, src_l, bin_add, bin_sub, neg_i, not_b, R.bind_assoc, Bool.false_and]
theorem r_are_no (h : HasJ fs) {x : D} (hx : ∀ S, fIsi S [x, .ty "tuple"] = some (.bl false)) : runF fs (k + 1) "are_colours" [fam n ss, x] S = .ok (.bl false) S := by
  rw [rf_eq h.are]
  simp only [b_are_colours, e_var, e_cst, e_ty, e_gfn, e_bin, e_cmp, e_chn, e_neg, e_nt, e_one, e_and, e_or, e_ite, e_tup, e_lst, e_idx, e_slc, o_none, o_some, e_call, e_blt, e_isi, a_nil, a_cons, i_of, i_rng, c_none, c_some, s_set, s_setLc, s_asg, s_par, s_stI, s_ex, s_ret, s_if, s_rai, s_pass, b_nil, b_cons, M.opt_some, R.bind_ok, getE_0, getE_s, List.map_cons, List.map_nil, List.cons_append, List.nil_append, List.length_cons, List.length_nil, List.replicate_succ, List.replicate_zero, Nat.reduceSub, Nat.reduceAdd, List.set_cons_zero, List.set_cons_succ, Option.map_some, BT.nm, wipeE, seqK_n, seqK_r, andK_t, andK_f, orK_f, orK_t, iteK_t, iteK_f, asgK_nm, asgK_t2, asgK_t3, endF_n, endF_r, slI_i, toBl_b, vw_i, vw_b, vw_t, vw_tI, vw_tT, vw_l, vw_s, vw_n, vw_ty, src_t, src_tI, src_tT, src_l, bin_add, bin_sub, neg_i, not_b, R.bind_assoc, hx, Bool.not_false]
theorem r_isc (h : HasJ fs) (F : FamOk n ss) {x : D} {b : Bool} (hx : ∀ k S, runF fs (k + 1) "are_colours" [fam n ss, x] S = .ok (.bl b) S) : runF fs (k + 5) "is_colours" [fam n ss, x] S = .ok (.bl b) S := by
  rw [rf_eq h.isc]
  simp only [b_is_colours, e_var, e_cst, e_ty, e_gfn, e_bin, e_cmp, e_chn, e_neg, e_nt, e_one, e_and, e_or, e_ite, e_tup, e_lst, e_idx, e_slc, o_none, o_some, e_call, e_blt, e_isi, a_nil, a_cons, i_of, i_rng, c_none, c_some, s_set, s_setLc, s_asg, s_par, s_stI, s_ex, s_ret, s_if, s_rai, s_pass, b_nil, b_cons, M.opt_some, R.bind_ok, getE_0, getE_s, List.map_cons, List.map_nil, List.cons_append, List.nil_append, List.length_cons, List.length_nil, List.replicate_succ, List.replicate_zero, Nat.reduceSub, Nat.reduceAdd, List.set_cons_zero, List.set_cons_succ, Option.map_some, BT.nm, wipeE, seqK_n, seqK_r, andK_t, andK_f, orK_f, orK_t, iteK_t, iteK_f, asgK_nm, asgK_t2, asgK_t3, endF_n, endF_r, slI_i, toBl_b, vw_i, vw_b, vw_t, vw_tI, vw_tT, vw_l, vw_s, vw_n, vw_ty, src_t, src_tI, src_tT, src_l, bin_add, bin_sub, neg_i, not_b, R.bind_assoc]
  rw [r_check_family h.toHasF F]
  simp only [e_var, e_cst, e_ty, e_gfn, e_bin, e_cmp, e_chn, e_neg, e_nt, e_one, e_and, e_or, e_ite, e_tup, e_lst, e_idx, e_slc, o_none, o_some, e_call, e_blt, e_isi, a_nil, a_cons, i_of, i_rng, c_none, c_some, s_set, s_setLc, s_asg, s_par, s_stI, s_ex, s_ret, s_if, s_rai, s_pass, b_nil, b_cons, M.opt_some, R.bind_ok, getE_0, getE_s, List.map_cons, List.map_nil, List.cons_append, List.nil_append, List.length_cons, List.length_nil, List.replicate_succ, List.replicate_zero, Nat.reduceSub, Nat.reduceAdd, List.set_cons_zero, List.set_cons_succ, Option.map_some, BT.nm, wipeE, seqK_n, seqK_r, andK_t, andK_f, orK_f, orK_t, iteK_t, iteK_f, asgK_nm, asgK_t2, asgK_t3, endF_n, endF_r, slI_i, toBl_b, vw_i, vw_b, vw_t, vw_tI, vw_tT, vw_l, vw_s, vw_n, vw_ty, src_t, src_tI, src_tT, src_l, bin_add, bin_sub, neg_i, not_b, R.bind_assoc]
  rw [hx]
  simp only [e_var, e_cst, e_ty, e_gfn, e_bin, e_cmp, e_chn, e_neg, e_nt, e_one, e_and, e_or, e_ite, e_tup, e_lst, e_idx, e_slc, o_none, o_some, e_call, e_blt, e_isi, a_nil, a_cons, i_of, i_rng, c_none, c_some, s_set, s_setLc, s_asg, s_par, s_stI, s_ex, s_ret, s_if, s_rai, s_pass, b_nil, b_cons, M.opt_some, R.bind_ok, getE_0, getE_s, List.map_cons, List.map_nil, List.cons_append, List.nil_append, List.length_cons, List.length_nil, List.replicate_succ, List.replicate_zero, Nat.reduceSub, Nat.reduceAdd, List.set_cons_zero, List.set_cons_succ, Option.map_some, BT.nm, wipeE, seqK_n, seqK_r, andK_t, andK_f, orK_f, orK_t, iteK_t, iteK_f, asgK_nm, asgK_t2, asgK_t3, endF_n, endF_r, slI_i, toBl_b, vw_i, vw_b, vw_t, vw_tI, vw_tT, vw_l, vw_s, vw_n, vw_ty, src_t, src_tI, src_tT, src_l, bin_add, bin_sub, neg_i, not_b, R.bind_assoc]
theorem hue_all {c : List Int} (hc : hueOk n c) : ∀ (k : Nat) (S : Store), HasJ fs → runF fs (k + 1) "are_colours" [fam n ss, tI c] S = .ok (.bl true) S := fun k S h => by
  have := r_are (k := k) (S := S) (n := n) (ss := ss) h (c.map D.int) (fun x hx => by
    obtain ⟨i, _, rfl⟩ := List.mem_map.mp hx
    trivial)
  rw [show tI c = .tup (c.map D.int) from rfl, this, List.length_map, decide_eq_true hc.1]
  have : (c.map D.int).all isHue = true := by
    rw [List.all_map, List.all_eq_true]
    intro x hx
    exact decide_eq_true (hc.2 x hx)
  rw [this]
  rfl
theorem r_check_both (h : HasJ fs) (F : FamOk n ss) {c : List Int} (hc : hueOk n c) : runF fs (k + 5) "check_both" [fam n ss, tI c] S = .ok .non S := by
  rw [rf_eq h.both]
  simp only [b_check_both, e_var, e_cst, e_ty, e_gfn, e_bin, e_cmp, e_chn, e_neg, e_nt, e_one, e_and, e_or, e_ite, e_tup, e_lst, e_idx, e_slc, o_none, o_some, e_call, e_blt, e_isi, a_nil, a_cons, i_of, i_rng, c_none, c_some, s_set, s_setLc, s_asg, s_par, s_stI, s_ex, s_ret, s_if, s_rai, s_pass, b_nil, b_cons, M.opt_some, R.bind_ok, getE_0, getE_s, List.map_cons, List.map_nil, List.cons_append, List.nil_append, List.length_cons, List.length_nil, List.replicate_succ, List.replicate_zero, Nat.reduceSub, Nat.reduceAdd, List.set_cons_zero, List.set_cons_succ, Option.map_some, BT.nm, wipeE, seqK_n, seqK_r, andK_t, andK_f, orK_f, orK_t, iteK_t, iteK_f, asgK_nm, asgK_t2, asgK_t3, endF_n, endF_r, slI_i, toBl_b, vw_i, vw_b, vw_t, vw_tI, vw_tT, vw_l, vw_s, vw_n, vw_ty, src_t, src_tI, src_tT, src_l, bin_add, bin_sub, neg_i, not_b, R.bind_assoc]
  rw [r_check_family h.toHasF F]
  simp only [e_var, e_cst, e_ty, e_gfn, e_bin, e_cmp, e_chn, e_neg, e_nt, e_one, e_and, e_or, e_ite, e_tup, e_lst, e_idx, e_slc, o_none, o_some, e_call, e_blt, e_isi, a_nil, a_cons, i_of, i_rng, c_none, c_some, s_set, s_setLc, s_asg, s_par, s_stI, s_ex, s_ret, s_if, s_rai, s_pass, b_nil, b_cons, M.opt_some, R.bind_ok, getE_0, getE_s, List.map_cons, List.map_nil, List.cons_append, List.nil_append, List.length_cons, List.length_nil, List.replicate_succ, List.replicate_zero, Nat.reduceSub, Nat.reduceAdd, List.set_cons_zero, List.set_cons_succ, Option.map_some, BT.nm, wipeE, seqK_n, seqK_r, andK_t, andK_f, orK_f, orK_t, iteK_t, iteK_f, asgK_nm, asgK_t2, asgK_t3, endF_n, endF_r, slI_i, toBl_b, vw_i, vw_b, vw_t, vw_tI, vw_tT, vw_l, vw_s, vw_n, vw_ty, src_t, src_tI, src_tT, src_l, bin_add, bin_sub, neg_i, not_b, R.bind_assoc]
  rw [hue_all hc _ _ h]
  simp only [e_var, e_cst, e_ty, e_gfn, e_bin, e_cmp, e_chn, e_neg, e_nt, e_one, e_and, e_or, e_ite, e_tup, e_lst, e_idx, e_slc, o_none, o_some, e_call, e_blt, e_isi, a_nil, a_cons, i_of, i_rng, c_none, c_some, s_set, s_setLc, s_asg, s_par, s_stI, s_ex, s_ret, s_if, s_rai, s_pass, b_nil, b_cons, M.opt_some, R.bind_ok, getE_0, getE_s, List.map_cons, List.map_nil, List.cons_append, List.nil_append, List.length_cons, List.length_nil, List.replicate_succ, List.replicate_zero, Nat.reduceSub, Nat.reduceAdd, List.set_cons_zero, List.set_cons_succ, Option.map_some, BT.nm, wipeE, seqK_n, seqK_r, andK_t, andK_f, orK_f, orK_t, iteK_t, iteK_f, asgK_nm, asgK_t2, asgK_t3, endF_n, endF_r, slI_i, toBl_b, vw_i, vw_b, vw_t, vw_tI, vw_tT, vw_l, vw_s, vw_n, vw_ty, src_t, src_tI, src_tT, src_l, bin_add, bin_sub, neg_i, not_b, R.bind_assoc, Bool.not_true]
theorem r_sumz (h : HasJ fs) (F : FamOk n ss) {c : List Int} (hc : hueOk n c) : runF fs (k + 6) "sums" [fam n ss, tI c] S = .ok (tI (ss.map (ssum c))) S := by
  rw [rf_eq h.smz]
  simp only [b_sums, e_var, e_cst, e_ty, e_gfn, e_bin, e_cmp, e_chn, e_neg, e_nt, e_one, e_and, e_or, e_ite, e_tup, e_lst, e_idx, e_slc, o_none, o_some, e_call, e_blt, e_isi, a_nil, a_cons, i_of, i_rng, c_none, c_some, s_set, s_setLc, s_asg, s_par, s_stI, s_ex, s_ret, s_if, s_rai, s_pass, b_nil, b_cons, M.opt_some, R.bind_ok, getE_0, getE_s, List.map_cons, List.map_nil, List.cons_append, List.nil_append, List.length_cons, List.length_nil, List.replicate_succ, List.replicate_zero, Nat.reduceSub, Nat.reduceAdd, List.set_cons_zero, List.set_cons_succ, Option.map_some, BT.nm, wipeE, seqK_n, seqK_r, andK_t, andK_f, orK_f, orK_t, iteK_t, iteK_f, asgK_nm, asgK_t2, asgK_t3, endF_n, endF_r, slI_i, toBl_b, vw_i, vw_b, vw_t, vw_tI, vw_tT, vw_l, vw_s, vw_n, vw_ty, src_t, src_tI, src_tT, src_l, bin_add, bin_sub, neg_i, not_b, R.bind_assoc]
  rw [r_check_both h F hc]
  simp only [e_var, e_cst, e_ty, e_gfn, e_bin, e_cmp, e_chn, e_neg, e_nt, e_one, e_and, e_or, e_ite, e_tup, e_lst, e_idx, e_slc, o_none, o_some, e_call, e_blt, e_isi, a_nil, a_cons, i_of, i_rng, c_none, c_some, s_set, s_setLc, s_asg, s_par, s_stI, s_ex, s_ret, s_if, s_rai, s_pass, b_nil, b_cons, M.opt_some, R.bind_ok, getE_0, getE_s, List.map_cons, List.map_nil, List.cons_append, List.nil_append, List.length_cons, List.length_nil, List.replicate_succ, List.replicate_zero, Nat.reduceSub, Nat.reduceAdd, List.set_cons_zero, List.set_cons_succ, Option.map_some, BT.nm, wipeE, seqK_n, seqK_r, andK_t, andK_f, orK_f, orK_t, iteK_t, iteK_f, asgK_nm, asgK_t2, asgK_t3, endF_n, endF_r, slI_i, toBl_b, vw_i, vw_b, vw_t, vw_tI, vw_tT, vw_l, vw_s, vw_n, vw_ty, src_t, src_tI, src_tT, src_l, bin_add, bin_sub, neg_i, not_b, R.bind_assoc]
  rw [r_sums h.sums F hc.1]
  simp only [e_var, e_cst, e_ty, e_gfn, e_bin, e_cmp, e_chn, e_neg, e_nt, e_one, e_and, e_or, e_ite, e_tup, e_lst, e_idx, e_slc, o_none, o_some, e_call, e_blt, e_isi, a_nil, a_cons, i_of, i_rng, c_none, c_some, s_set, s_setLc, s_asg, s_par, s_stI, s_ex, s_ret, s_if, s_rai, s_pass, b_nil, b_cons, M.opt_some, R.bind_ok, getE_0, getE_s, List.map_cons, List.map_nil, List.cons_append, List.nil_append, List.length_cons, List.length_nil, List.replicate_succ, List.replicate_zero, Nat.reduceSub, Nat.reduceAdd, List.set_cons_zero, List.set_cons_succ, Option.map_some, BT.nm, wipeE, seqK_n, seqK_r, andK_t, andK_f, orK_f, orK_t, iteK_t, iteK_f, asgK_nm, asgK_t2, asgK_t3, endF_n, endF_r, slI_i, toBl_b, vw_i, vw_b, vw_t, vw_tI, vw_tT, vw_l, vw_s, vw_n, vw_ty, src_t, src_tI, src_tT, src_l, bin_add, bin_sub, neg_i, not_b, R.bind_assoc]
theorem r_une (h : HasJ fs) (F : FamOk n ss) {c : List Int} (hc : hueOk n c) : runF fs (k + 6) "uneven" [fam n ss, tI c] S = .ok (.int (unev c ss)) S := by
  rw [rf_eq h.une]
  simp only [b_uneven, e_var, e_cst, e_ty, e_gfn, e_bin, e_cmp, e_chn, e_neg, e_nt, e_one, e_and, e_or, e_ite, e_tup, e_lst, e_idx, e_slc, o_none, o_some, e_call, e_blt, e_isi, a_nil, a_cons, i_of, i_rng, c_none, c_some, s_set, s_setLc, s_asg, s_par, s_stI, s_ex, s_ret, s_if, s_rai, s_pass, b_nil, b_cons, M.opt_some, R.bind_ok, getE_0, getE_s, List.map_cons, List.map_nil, List.cons_append, List.nil_append, List.length_cons, List.length_nil, List.replicate_succ, List.replicate_zero, Nat.reduceSub, Nat.reduceAdd, List.set_cons_zero, List.set_cons_succ, Option.map_some, BT.nm, wipeE, seqK_n, seqK_r, andK_t, andK_f, orK_f, orK_t, iteK_t, iteK_f, asgK_nm, asgK_t2, asgK_t3, endF_n, endF_r, slI_i, toBl_b, vw_i, vw_b, vw_t, vw_tI, vw_tT, vw_l, vw_s, vw_n, vw_ty, src_t, src_tI, src_tT, src_l, bin_add, bin_sub, neg_i, not_b, R.bind_assoc]
  rw [r_check_both h F hc]
  simp only [e_var, e_cst, e_ty, e_gfn, e_bin, e_cmp, e_chn, e_neg, e_nt, e_one, e_and, e_or, e_ite, e_tup, e_lst, e_idx, e_slc, o_none, o_some, e_call, e_blt, e_isi, a_nil, a_cons, i_of, i_rng, c_none, c_some, s_set, s_setLc, s_asg, s_par, s_stI, s_ex, s_ret, s_if, s_rai, s_pass, b_nil, b_cons, M.opt_some, R.bind_ok, getE_0, getE_s, List.map_cons, List.map_nil, List.cons_append, List.nil_append, List.length_cons, List.length_nil, List.replicate_succ, List.replicate_zero, Nat.reduceSub, Nat.reduceAdd, List.set_cons_zero, List.set_cons_succ, Option.map_some, BT.nm, wipeE, seqK_n, seqK_r, andK_t, andK_f, orK_f, orK_t, iteK_t, iteK_f, asgK_nm, asgK_t2, asgK_t3, endF_n, endF_r, slI_i, toBl_b, vw_i, vw_b, vw_t, vw_tI, vw_tT, vw_l, vw_s, vw_n, vw_ty, src_t, src_tI, src_tT, src_l, bin_add, bin_sub, neg_i, not_b, R.bind_assoc]
  rw [r_uneven rfl h.sums h.unev F hc.1]
  simp only [e_var, e_cst, e_ty, e_gfn, e_bin, e_cmp, e_chn, e_neg, e_nt, e_one, e_and, e_or, e_ite, e_tup, e_lst, e_idx, e_slc, o_none, o_some, e_call, e_blt, e_isi, a_nil, a_cons, i_of, i_rng, c_none, c_some, s_set, s_setLc, s_asg, s_par, s_stI, s_ex, s_ret, s_if, s_rai, s_pass, b_nil, b_cons, M.opt_some, R.bind_ok, getE_0, getE_s, List.map_cons, List.map_nil, List.cons_append, List.nil_append, List.length_cons, List.length_nil, List.replicate_succ, List.replicate_zero, Nat.reduceSub, Nat.reduceAdd, List.set_cons_zero, List.set_cons_succ, Option.map_some, BT.nm, wipeE, seqK_n, seqK_r, andK_t, andK_f, orK_f, orK_t, iteK_t, iteK_f, asgK_nm, asgK_t2, asgK_t3, endF_n, endF_r, slI_i, toBl_b, vw_i, vw_b, vw_t, vw_tI, vw_tT, vw_l, vw_s, vw_n, vw_ty, src_t, src_tI, src_tT, src_l, bin_add, bin_sub, neg_i, not_b, R.bind_assoc]
end
end LC

end
section
set_option maxHeartbeats 200000
/-! BD2: defs that the laws share, as terms (printed by mkbd.py). -/
namespace LC
open PySem
def b_check_lot : LB :=
  (.cons (.ifs (.nt (.call "is_lot" (.cons (.idx (.var 0) (.cst (.int 0))) (.cons (.var 1) .nil)))) (.cons (.rai "InvalidLot")
    .nil) .nil)
    .nil)
def b_found_within_1 : LB :=
  (.cons (.set 7 (.blt .tuple (.cons (.lc [5] (.of (.var 6)) (.nm 5) (.some (.din (.var 5) (.var 2))) (.dget (.var 2) (.var 5))) .nil)))
    (.cons (.ifs (.bop true (.cons (.cmp .NotEq (.var 7) (.tup .nil)) (.cons (.cmp .NotIn (.var 7) (.var 3)) .nil))) (.cons (.app (.var 3) (.var 7))
    .nil) .nil)
    .nil))
def b_found_within : LB :=
  (.cons (.asg (.tp [2, 3]) (.tup (.cons (.dict (.lc [4, 5] (.enm (.var 1)) (.tp [4, 5]) .none (.tup (.cons (.var 5) (.cons (.var 4) .nil))))) (.cons (.lstC .nil) .nil))))
    (.cons (.for_ (.of (.idx (.var 0) (.cst (.int 1)))) (.nm 6) b_found_within_1)
    (.cons (.ret (.ite (.cmp .NotEq (.var 3) (.lst .nil)) (.tup (.cons (.blt .len (.cons (.var 1) .nil)) (.cons (.blt .tuple (.cons (.blt .sorted (.cons (.var 3) .nil)) .nil)) .nil))) (.cst .non)))
    .nil)))
def b_within : LB :=
  (.cons (.ex (.call "check_family" (.cons (.var 0) .nil)))
    (.cons (.ex (.call "check_lot" (.cons (.var 0) (.cons (.var 1) .nil))))
    (.cons (.ret (.call "found_within" (.cons (.var 0) (.cons (.var 1) .nil))))
    .nil)))
def b_some_numbers_1 : LB :=
  (.cons (.setLc 2 (.lc2 [4, 5] [5] (.of (.var 2)) (.nm 4) .none (.rng (.cons (.var 0) .nil)) (.nm 5) (.some (.bop false (.cons (.cmp .Eq (.var 4) (.tup .nil)) (.cons (.cmp .Lt (.idx (.var 4) (.neg (.cst (.int 1)))) (.var 5)) .nil)))) (.bin .Add (.var 4) (.tup (.cons (.var 5) .nil)))))
    .nil)
def b_some_numbers : LB :=
  (.cons (.set 2 (.lst (.cons (.tup .nil) .nil)))
    (.cons (.for_ (.rng (.cons (.var 1) .nil)) (.nm 3) b_some_numbers_1)
    (.cons (.ret (.var 2))
    .nil)))
def b_found_lot_uneven : LB :=
  (.cons (.set 2 (.call "found_within" (.cons (.var 0) (.cons (.var 1) .nil))))
    (.cons (.ret (.ite (.cmp .Is (.var 2) (.cst .non)) (.cst (.int 0)) (.call "found_least" (.cons (.var 2) .nil))))
    .nil))
def b_lot_uneven : LB :=
  (.cons (.ex (.call "check_family" (.cons (.var 0) .nil)))
    (.cons (.ex (.call "check_lot" (.cons (.var 0) (.cons (.var 1) .nil))))
    (.cons (.ret (.call "found_lot_uneven" (.cons (.var 0) (.cons (.var 1) .nil))))
    .nil)))
def b_worst_lot_1 : LB :=
  (.cons (.set 5 (.call "found_lot_uneven" (.cons (.var 0) (.cons (.var 4) .nil))))
    (.cons (.ifs (.cmp .Gt (.var 5) (.var 1)) (.cons (.par 1 2 (.cons (.var 5) (.cons (.var 4) .nil)))
    .nil) .nil)
    .nil))
def b_worst_lot_2 : LB :=
  (.cons (.for_ (.of (.call "some_numbers" (.cons (.idx (.var 0) (.cst (.int 0))) (.cons (.var 3) .nil)))) (.nm 4) b_worst_lot_1)
    .nil)
def b_worst_lot : LB :=
  (.cons (.ex (.call "check_family" (.cons (.var 0) .nil)))
    (.cons (.asg (.tp [1, 2]) (.tup (.cons (.neg (.cst (.int 1))) (.cons (.cst .non) .nil))))
    (.cons (.for_ (.rng (.cons (.cst (.int 1)) (.cons (.bin .Add (.idx (.var 0) (.cst (.int 0))) (.cst (.int 1))) .nil))) (.nm 3) b_worst_lot_2)
    (.cons (.ret (.tup (.cons (.var 1) (.cons (.var 2) .nil))))
    .nil))))
def b_is_always_even : LB :=
  (.cons (.ret (.cmp .LtE (.idx (.call "worst_lot" (.cons (.var 0) .nil)) (.cst (.int 0))) (.cst (.int 1))))
    .nil)
def b__law_pick : LB :=
  (.cons (.ret (.idx (.var 2) (.call "_law_draw" (.cons (.var 0) (.cons (.var 1) (.cons (.blt .len (.cons (.var 2) .nil)) .nil))))))
    .nil)
def b__law_outcome : LB :=
  (.cons (.set 2 (.cst .non))
    (.cons (.set 3 (.cst .non))
    (.cons (.tryE 3 "ColourError" ["InvalidFamily", "InvalidColours", "InvalidNumber", "InvalidLot", "InvalidTold", "InvalidRounding", "InvalidSet", "InvalidNames", "InvalidMixture", "InvalidSums", "InvalidBottom", "InvalidText", "LastOne", "TooMany", "NothingToUndo"] 4 2 (.call "_law_call" (.cons (.var 0) (.cons (.var 1) .nil))))
    (.cons (.ifs (.cmp .Is (.var 2) (.cst .non)) (.cons (.ret (.tup (.cons (.cst (.str "returned")) (.cons (.var 3) .nil))))
    .nil) .nil)
    (.cons (.ret (.tup (.cons (.cst (.str "raised")) (.cons (.call "_law_name" (.cons (.var 2) .nil)) .nil))))
    .nil)))))
def b__law_name : LB :=
  (.cons (.ifs (.nt (.isv ["InvalidFamily", "InvalidColours", "InvalidNumber", "InvalidLot", "InvalidTold", "InvalidRounding", "InvalidSet", "InvalidNames", "InvalidMixture", "InvalidSums", "InvalidBottom", "InvalidText", "LastOne", "TooMany", "NothingToUndo"] (.var 0))) (.cons (.ret (.neg (.cst (.int 1))))
    .nil) .nil)
    (.cons (.set 1 (.lst (.cons (.isx ["InvalidFamily", "InvalidColours", "InvalidNumber", "InvalidLot", "InvalidTold", "InvalidRounding", "InvalidSet", "InvalidNames", "InvalidMixture", "InvalidSums", "InvalidBottom", "InvalidText", "LastOne", "TooMany", "NothingToUndo"] "InvalidFamily" (.var 0)) (.cons (.isx ["InvalidFamily", "InvalidColours", "InvalidNumber", "InvalidLot", "InvalidTold", "InvalidRounding", "InvalidSet", "InvalidNames", "InvalidMixture", "InvalidSums", "InvalidBottom", "InvalidText", "LastOne", "TooMany", "NothingToUndo"] "InvalidColours" (.var 0)) .nil))))
    (.cons (.set 1 (.bin .Add (.var 1) (.lst (.cons (.isx ["InvalidFamily", "InvalidColours", "InvalidNumber", "InvalidLot", "InvalidTold", "InvalidRounding", "InvalidSet", "InvalidNames", "InvalidMixture", "InvalidSums", "InvalidBottom", "InvalidText", "LastOne", "TooMany", "NothingToUndo"] "InvalidNumber" (.var 0)) (.cons (.isx ["InvalidFamily", "InvalidColours", "InvalidNumber", "InvalidLot", "InvalidTold", "InvalidRounding", "InvalidSet", "InvalidNames", "InvalidMixture", "InvalidSums", "InvalidBottom", "InvalidText", "LastOne", "TooMany", "NothingToUndo"] "InvalidLot" (.var 0)) .nil)))))
    (.cons (.set 1 (.bin .Add (.var 1) (.lst (.cons (.isx ["InvalidFamily", "InvalidColours", "InvalidNumber", "InvalidLot", "InvalidTold", "InvalidRounding", "InvalidSet", "InvalidNames", "InvalidMixture", "InvalidSums", "InvalidBottom", "InvalidText", "LastOne", "TooMany", "NothingToUndo"] "InvalidTold" (.var 0)) (.cons (.isx ["InvalidFamily", "InvalidColours", "InvalidNumber", "InvalidLot", "InvalidTold", "InvalidRounding", "InvalidSet", "InvalidNames", "InvalidMixture", "InvalidSums", "InvalidBottom", "InvalidText", "LastOne", "TooMany", "NothingToUndo"] "InvalidRounding" (.var 0)) .nil)))))
    (.cons (.set 1 (.bin .Add (.var 1) (.lst (.cons (.isx ["InvalidFamily", "InvalidColours", "InvalidNumber", "InvalidLot", "InvalidTold", "InvalidRounding", "InvalidSet", "InvalidNames", "InvalidMixture", "InvalidSums", "InvalidBottom", "InvalidText", "LastOne", "TooMany", "NothingToUndo"] "InvalidSet" (.var 0)) (.cons (.isx ["InvalidFamily", "InvalidColours", "InvalidNumber", "InvalidLot", "InvalidTold", "InvalidRounding", "InvalidSet", "InvalidNames", "InvalidMixture", "InvalidSums", "InvalidBottom", "InvalidText", "LastOne", "TooMany", "NothingToUndo"] "InvalidNames" (.var 0)) .nil)))))
    (.cons (.set 1 (.bin .Add (.var 1) (.lst (.cons (.isx ["InvalidFamily", "InvalidColours", "InvalidNumber", "InvalidLot", "InvalidTold", "InvalidRounding", "InvalidSet", "InvalidNames", "InvalidMixture", "InvalidSums", "InvalidBottom", "InvalidText", "LastOne", "TooMany", "NothingToUndo"] "InvalidMixture" (.var 0)) (.cons (.isx ["InvalidFamily", "InvalidColours", "InvalidNumber", "InvalidLot", "InvalidTold", "InvalidRounding", "InvalidSet", "InvalidNames", "InvalidMixture", "InvalidSums", "InvalidBottom", "InvalidText", "LastOne", "TooMany", "NothingToUndo"] "InvalidSums" (.var 0)) .nil)))))
    (.cons (.set 1 (.bin .Add (.var 1) (.lst (.cons (.isx ["InvalidFamily", "InvalidColours", "InvalidNumber", "InvalidLot", "InvalidTold", "InvalidRounding", "InvalidSet", "InvalidNames", "InvalidMixture", "InvalidSums", "InvalidBottom", "InvalidText", "LastOne", "TooMany", "NothingToUndo"] "InvalidBottom" (.var 0)) (.cons (.isx ["InvalidFamily", "InvalidColours", "InvalidNumber", "InvalidLot", "InvalidTold", "InvalidRounding", "InvalidSet", "InvalidNames", "InvalidMixture", "InvalidSums", "InvalidBottom", "InvalidText", "LastOne", "TooMany", "NothingToUndo"] "InvalidText" (.var 0)) .nil)))))
    (.cons (.set 1 (.bin .Add (.var 1) (.lst (.cons (.isx ["InvalidFamily", "InvalidColours", "InvalidNumber", "InvalidLot", "InvalidTold", "InvalidRounding", "InvalidSet", "InvalidNames", "InvalidMixture", "InvalidSums", "InvalidBottom", "InvalidText", "LastOne", "TooMany", "NothingToUndo"] "LastOne" (.var 0)) (.cons (.isx ["InvalidFamily", "InvalidColours", "InvalidNumber", "InvalidLot", "InvalidTold", "InvalidRounding", "InvalidSet", "InvalidNames", "InvalidMixture", "InvalidSums", "InvalidBottom", "InvalidText", "LastOne", "TooMany", "NothingToUndo"] "TooMany" (.var 0)) .nil)))))
    (.cons (.set 1 (.bin .Add (.var 1) (.lst (.cons (.isx ["InvalidFamily", "InvalidColours", "InvalidNumber", "InvalidLot", "InvalidTold", "InvalidRounding", "InvalidSet", "InvalidNames", "InvalidMixture", "InvalidSums", "InvalidBottom", "InvalidText", "LastOne", "TooMany", "NothingToUndo"] "NothingToUndo" (.var 0)) .nil))))
    (.cons (.ret (.ite (.cmp .Eq (.lm .count (.var 1) (.cst (.bl true))) (.cst (.int 1))) (.lm .index (.var 1) (.cst (.bl true))) (.neg (.cst (.int 1)))))
    .nil))))))))))
def b__law_raises : LB :=
  (.cons (.set 1 (.lst (.cons (.cst (.str "family")) (.cons (.cst (.str "colours")) (.cons (.cst (.str "number")) (.cons (.cst (.str "lot")) (.cons (.cst (.str "told")) (.cons (.cst (.str "rounding")) (.cons (.cst (.str "set")) (.cons (.cst (.str "names")) .nil))))))))))
    (.cons (.set 1 (.bin .Add (.var 1) (.lst (.cons (.cst (.str "mixture")) (.cons (.cst (.str "sums")) (.cons (.cst (.str "bottom")) (.cons (.cst (.str "text")) (.cons (.cst (.str "last_one")) (.cons (.cst (.str "many")) (.cons (.cst (.str "undo")) .nil))))))))))
    (.cons (.ret (.tup (.cons (.cst (.str "raised")) (.cons (.lm .index (.var 1) (.var 0)) .nil))))
    .nil)))
def b__law_lots_1 : LB :=
  (.cons (.set 1 (.bin .Add (.var 1) (.lc [3] (.of (.var 1)) (.nm 3) .none (.bin .Add (.var 3) (.tup (.cons (.var 2) .nil))))))
    .nil)
def b__law_lots : LB :=
  (.cons (.set 1 (.lst (.cons (.tup .nil) .nil)))
    (.cons (.for_ (.rng (.cons (.var 0) .nil)) (.nm 2) b__law_lots_1)
    (.cons (.ret (.lc [4, 3] (.of (.blt .sorted (.cons (.lc [3] (.of (.var 1)) (.nm 3) .none (.tup (.cons (.blt .len (.cons (.var 3) .nil)) (.cons (.var 3) .nil)))) .nil))) (.tp [4, 3]) (.some (.cmp .Gt (.var 4) (.cst (.int 0)))) (.var 3)))
    .nil)))
def b__law_least_1 : LB :=
  (.cons (.set 7 (.dictZ (.cons (.var 1) (.cons (.var 6) .nil))))
    (.cons (.set 4 (.blt .max (.cons (.lc [8] (.of (.var 2)) (.nm 8) .none (.blt .abs (.cons (.blt .sum (.cons (.lc [3] (.of (.var 8)) (.nm 3) .none (.dget (.var 7) (.var 3))) .nil)) .nil))) .nil)))
    (.cons (.set 5 (.ite (.bop false (.cons (.cmp .Is (.var 5) (.cst .non)) (.cons (.cmp .Lt (.var 4) (.var 5)) .nil))) (.var 4) (.var 5)))
    .nil)))
def b__law_least : LB :=
  (.cons (.setLc 2 (.lc [4] (.of (.idx (.var 0) (.cst (.int 1)))) (.nm 4) .none (.lc [3] (.of (.var 4)) (.nm 3) (.some (.cmp .In (.var 3) (.var 1))) (.var 3))))
    (.cons (.set 5 (.cst .non))
    (.cons (.for_ (.of (.call "_law_all" (.cons (.blt .len (.cons (.var 1) .nil)) (.cons (.tup (.cons (.neg (.cst (.int 1))) (.cons (.cst (.int 1)) .nil))) .nil)))) (.nm 6) b__law_least_1)
    (.cons (.ret (.var 5))
    .nil))))
def b_divisor_of : LB :=
  (.cons (.par 0 1 (.cons (.blt .abs (.cons (.var 0) .nil)) (.cons (.blt .abs (.cons (.var 1) .nil)) .nil)))
    (.cons (.whl (.cmp .NotEq (.var 1) (.cst (.int 0))) (.cons (.par 0 1 (.cons (.var 1) (.cons (.bin .Mod (.var 0) (.var 1)) .nil)))
    .nil))
    (.cons (.ret (.var 0))
    .nil)))
def b_fraction : LB :=
  (.cons (.set 2 (.call "divisor_of" (.cons (.var 0) (.cons (.var 1) .nil))))
    (.cons (.set 2 (.ite (.cmp .Gt (.var 1) (.cst (.int 0))) (.var 2) (.neg (.var 2))))
    (.cons (.ret (.tup (.cons (.bin .FloorDiv (.var 0) (.var 2)) (.cons (.bin .FloorDiv (.var 1) (.var 2)) .nil))))
    .nil)))
def b_plus : LB :=
  (.cons (.ret (.call "fraction" (.cons (.bin .Add (.bin .Mult (.idx (.var 0) (.cst (.int 0))) (.idx (.var 1) (.cst (.int 1)))) (.bin .Mult (.idx (.var 1) (.cst (.int 0))) (.idx (.var 0) (.cst (.int 1))))) (.cons (.bin .Mult (.idx (.var 0) (.cst (.int 1))) (.idx (.var 1) (.cst (.int 1)))) .nil))))
    .nil)
def b_negative : LB :=
  (.cons (.ret (.tup (.cons (.neg (.idx (.var 0) (.cst (.int 0)))) (.cons (.idx (.var 0) (.cst (.int 1))) .nil))))
    .nil)
def b_less : LB :=
  (.cons (.ret (.call "plus" (.cons (.var 0) (.cons (.call "negative" (.cons (.var 1) .nil)) .nil))))
    .nil)
def b_is_below : LB :=
  (.cons (.ret (.cmp .Lt (.bin .Mult (.idx (.var 0) (.cst (.int 0))) (.idx (.var 1) (.cst (.int 1)))) (.bin .Mult (.idx (.var 1) (.cst (.int 0))) (.idx (.var 0) (.cst (.int 1))))))
    .nil)
def b_is_fraction : LB :=
  (.cons (.ifs (.bop false (.cons (.nt (.isi (.cons (.var 0) (.cons (.ty .tuple) .nil)))) (.cons (.cmp .NotEq (.blt .len (.cons (.var 0) .nil)) (.cst (.int 2))) .nil))) (.cons (.ret (.cst (.bl false)))
    .nil) .nil)
    (.cons (.ifs (.nt (.blt .all (.cons (.lc [1] (.of (.var 0)) (.nm 1) .none (.bop true (.cons (.isi (.cons (.var 1) (.cons (.ty .int) .nil))) (.cons (.nt (.isi (.cons (.var 1) (.cons (.ty .bool) .nil)))) .nil)))) .nil))) (.cons (.ret (.cst (.bl false)))
    .nil) .nil)
    (.cons (.ret (.bop true (.cons (.cmp .Gt (.idx (.var 0) (.cst (.int 1))) (.cst (.int 0))) (.cons (.cmp .Eq (.call "divisor_of" (.cons (.idx (.var 0) (.cst (.int 0))) (.cons (.idx (.var 0) (.cst (.int 1))) .nil))) (.cst (.int 1))) .nil))))
    .nil)))
def b_sum_of_1 : LB :=
  (.cons (.set 1 (.call "plus" (.cons (.var 1) (.cons (.var 2) .nil))))
    .nil)
def b_sum_of : LB :=
  (.cons (.set 1 (.tup (.cons (.cst (.int 0)) (.cons (.cst (.int 1)) .nil))))
    (.cons (.for_ (.of (.var 0)) (.nm 2) b_sum_of_1)
    (.cons (.ret (.var 1))
    .nil)))
def b_check_told : LB :=
  (.cons (.ex (.call "check_family" (.cons (.var 0) .nil)))
    (.cons (.ifs (.bop false (.cons (.nt (.isi (.cons (.var 1) (.cons (.ty .tuple) .nil)))) (.cons (.cmp .NotEq (.blt .len (.cons (.var 1) .nil)) (.idx (.var 0) (.cst (.int 0)))) (.cons (.nt (.blt .all (.cons (.lc [2] (.of (.var 1)) (.nm 2) .none (.call "is_fraction" (.cons (.var 2) .nil))) .nil))) .nil)))) (.cons (.rai "InvalidTold")
    .nil) .nil)
    (.cons (.ifs (.nt (.blt .all (.cons (.lc [2] (.of (.var 1)) (.nm 2) .none (.chn .LtE .LtE (.cst (.int 0)) (.idx (.var 2) (.cst (.int 0))) (.idx (.var 2) (.cst (.int 1))))) .nil))) (.cons (.rai "InvalidTold")
    .nil) .nil)
    .nil)))
def b_found_miss_1 : LB :=
  (.cons (.asg (.tp [5, 6]) (.call "less" (.cons (.tup (.cons (.blt .sum (.cons (.lc [7] (.of (.var 4)) (.nm 7) .none (.idx (.var 2) (.var 7))) .nil)) (.cons (.cst (.int 1)) .nil))) (.cons (.call "sum_of" (.cons (.lc [7] (.of (.var 4)) (.nm 7) .none (.idx (.var 1) (.var 7))) .nil)) .nil))))
    (.cons (.set 8 (.tup (.cons (.blt .abs (.cons (.var 5) .nil)) (.cons (.var 6) .nil))))
    (.cons (.set 3 (.ite (.call "is_below" (.cons (.var 3) (.cons (.var 8) .nil))) (.var 8) (.var 3)))
    .nil)))
def b_found_miss : LB :=
  (.cons (.set 3 (.tup (.cons (.cst (.int 0)) (.cons (.cst (.int 1)) .nil))))
    (.cons (.for_ (.of (.idx (.var 0) (.cst (.int 1)))) (.nm 4) b_found_miss_1)
    (.cons (.ret (.var 3))
    .nil)))
def b_miss : LB :=
  (.cons (.ex (.call "check_told" (.cons (.var 0) (.cons (.var 1) .nil))))
    (.cons (.ifs (.bop false (.cons (.nt (.isi (.cons (.var 2) (.cons (.ty .tuple) .nil)))) (.cons (.cmp .NotEq (.blt .len (.cons (.var 2) .nil)) (.idx (.var 0) (.cst (.int 0)))) .nil))) (.cons (.rai "InvalidRounding")
    .nil) .nil)
    (.cons (.ifs (.nt (.blt .all (.cons (.lc [3] (.of (.var 2)) (.nm 3) .none (.call "is_between" (.cons (.var 3) (.cons (.cst (.int 0)) (.cons (.cst (.int 1)) .nil))))) .nil))) (.cons (.rai "InvalidRounding")
    .nil) .nil)
    (.cons (.ret (.call "found_miss" (.cons (.var 0) (.cons (.var 1) (.cons (.var 2) .nil)))))
    .nil))))
def b_found_best_1 : LB :=
  (.cons (.set 5 (.call "found_miss" (.cons (.var 0) (.cons (.var 1) (.cons (.var 4) .nil)))))
    (.cons (.ifs (.bop false (.cons (.cmp .Is (.var 6) (.cst .non)) (.cons (.call "is_below" (.cons (.var 5) (.cons (.var 6) .nil))) .nil))) (.cons (.par 6 7 (.cons (.var 5) (.cons (.var 4) .nil)))
    .nil) .nil)
    .nil))
def b_found_best_2 : LB :=
  (.cons (.setLc 2 (.lc2 [4, 5] [5] (.of (.var 2)) (.nm 4) .none (.of (.tup (.cons (.cst (.int 0)) (.cons (.cst (.int 1)) .nil)))) (.nm 5) .none (.bin .Add (.var 4) (.tup (.cons (.var 5) .nil)))))
    .nil)
def b_found_best : LB :=
  (.cons (.ex (.call "check_told" (.cons (.var 0) (.cons (.var 1) .nil))))
    (.cons (.set 2 (.lst (.cons (.tup .nil) .nil)))
    (.cons (.for_ (.rng (.cons (.idx (.var 0) (.cst (.int 0))) .nil)) (.nm 3) b_found_best_2)
    (.cons (.asg (.tp [6, 7]) (.tup (.cons (.cst .non) (.cons (.cst .non) .nil))))
    (.cons (.for_ (.of (.var 2)) (.nm 4) b_found_best_1)
    (.cons (.ret (.tup (.cons (.var 6) (.cons (.var 7) .nil))))
    .nil))))))
def b_least_miss : LB :=
  (.cons (.ret (.idx (.call "found_best" (.cons (.var 0) (.cons (.var 1) .nil))) (.cst (.int 0))))
    .nil)
def b_rounded : LB :=
  (.cons (.ret (.idx (.call "found_best" (.cons (.var 0) (.cons (.var 1) .nil))) (.cst (.int 1))))
    .nil)
def b__law_ratio : LB :=
  (.cons (.par 2 3 (.cons (.blt .abs (.cons (.var 0) .nil)) (.cons (.blt .abs (.cons (.var 1) .nil)) .nil)))
    (.cons (.whl (.cmp .NotEq (.var 3) (.cst (.int 0))) (.cons (.par 2 3 (.cons (.var 3) (.cons (.bin .Mod (.var 2) (.var 3)) .nil)))
    .nil))
    (.cons (.set 2 (.ite (.cmp .Gt (.var 1) (.cst (.int 0))) (.var 2) (.bin .Sub (.cst (.int 0)) (.var 2))))
    (.cons (.ret (.tup (.cons (.bin .FloorDiv (.var 0) (.var 2)) (.cons (.bin .FloorDiv (.var 1) (.var 2)) .nil))))
    .nil))))
def b__law_plus : LB :=
  (.cons (.ret (.call "_law_ratio" (.cons (.bin .Add (.bin .Mult (.idx (.var 0) (.cst (.int 0))) (.idx (.var 1) (.cst (.int 1)))) (.bin .Mult (.idx (.var 1) (.cst (.int 0))) (.idx (.var 0) (.cst (.int 1))))) (.cons (.bin .Mult (.idx (.var 0) (.cst (.int 1))) (.idx (.var 1) (.cst (.int 1)))) .nil))))
    .nil)
def b__law_below : LB :=
  (.cons (.ret (.cmp .Lt (.bin .Mult (.idx (.var 0) (.cst (.int 0))) (.idx (.var 1) (.cst (.int 1)))) (.bin .Mult (.idx (.var 1) (.cst (.int 0))) (.idx (.var 0) (.cst (.int 1))))))
    .nil)
def b__law_miss_1 : LB :=
  (.cons (.set 5 (.call "_law_plus" (.cons (.var 5) (.cons (.tup (.cons (.bin .Sub (.cst (.int 0)) (.idx (.idx (.var 1) (.var 6)) (.cst (.int 0)))) (.cons (.idx (.idx (.var 1) (.var 6)) (.cst (.int 1))) .nil))) .nil))))
    .nil)
def b__law_miss_2 : LB :=
  (.cons (.set 5 (.tup (.cons (.blt .sum (.cons (.lc [6] (.of (.var 4)) (.nm 6) .none (.idx (.var 2) (.var 6))) .nil)) (.cons (.cst (.int 1)) .nil))))
    (.cons (.for_ (.of (.var 4)) (.nm 6) b__law_miss_1)
    (.cons (.set 5 (.tup (.cons (.blt .abs (.cons (.idx (.var 5) (.cst (.int 0))) .nil)) (.cons (.idx (.var 5) (.cst (.int 1))) .nil))))
    (.cons (.set 3 (.ite (.call "_law_below" (.cons (.var 3) (.cons (.var 5) .nil))) (.var 5) (.var 3)))
    .nil))))
def b__law_miss : LB :=
  (.cons (.set 3 (.tup (.cons (.cst (.int 0)) (.cons (.cst (.int 1)) .nil))))
    (.cons (.for_ (.of (.idx (.var 0) (.cst (.int 1)))) (.nm 4) b__law_miss_2)
    (.cons (.ret (.var 3))
    .nil)))
def b_determinant_1 : LB :=
  (.cons (.ifs (.cmp .NotEq (.var 3) (.cst (.int 0))) (.cons (.setLc 4 (.lc [5] (.of (.slc (.var 0) (.some (.cst (.int 1))) .none)) (.nm 5) .none (.bin .Add (.slc (.var 5) .none (.some (.var 2))) (.slc (.var 5) (.some (.bin .Add (.var 2) (.cst (.int 1)))) .none))))
    (.cons (.set 1 (.bin .Add (.var 1) (.bin .Mult (.ite (.cmp .Eq (.bin .Mod (.var 2) (.cst (.int 2))) (.cst (.int 0))) (.var 3) (.neg (.var 3))) (.call "determinant" (.cons (.var 4) .nil)))))
    .nil)) .nil)
    .nil)
def b_determinant : LB :=
  (.cons (.ifs (.cmp .Eq (.blt .len (.cons (.var 0) .nil)) (.cst (.int 1))) (.cons (.ret (.idx (.idx (.var 0) (.cst (.int 0))) (.cst (.int 0))))
    .nil) .nil)
    (.cons (.set 1 (.cst (.int 0)))
    (.cons (.for_ (.enm (.idx (.var 0) (.cst (.int 0)))) (.tp [2, 3]) b_determinant_1)
    (.cons (.ret (.var 1))
    .nil))))
def b_found_value : LB :=
  (.cons (.ret (.call "determinant" (.cons (.lc [4] (.of (.var 1)) (.nm 4) .none (.lc [3] (.of (.var 2)) (.nm 3) .none (.blt .int (.cons (.cmp .In (.var 3) (.idx (.idx (.var 0) (.cst (.int 1))) (.var 4))) .nil)))) .nil)))
    .nil)
def b_odd_square_1 : LB :=
  (.cons (.ifs (.cmp .Gt (.blt .abs (.cons (.call "found_value" (.cons (.var 0) (.cons (.var 2) (.cons (.var 3) .nil)))) .nil)) (.cst (.int 1))) (.cons (.ret (.tup (.cons (.var 2) (.cons (.var 3) .nil))))
    .nil) .nil)
    .nil)
def b_odd_square_2 : LB :=
  (.cons (.for_ (.of (.call "some_numbers" (.cons (.idx (.var 0) (.cst (.int 0))) (.cons (.var 1) .nil)))) (.nm 3) b_odd_square_1)
    .nil)
def b_odd_square_3 : LB :=
  (.cons (.for_ (.of (.call "some_numbers" (.cons (.blt .len (.cons (.idx (.var 0) (.cst (.int 1))) .nil)) (.cons (.var 1) .nil)))) (.nm 2) b_odd_square_2)
    .nil)
def b_odd_square : LB :=
  (.cons (.ex (.call "check_family" (.cons (.var 0) .nil)))
    (.cons (.for_ (.rng (.cons (.cst (.int 1)) (.cons (.bin .Add (.blt .min (.cons (.idx (.var 0) (.cst (.int 0))) (.cons (.blt .len (.cons (.idx (.var 0) (.cst (.int 1))) .nil)) .nil))) (.cst (.int 1))) .nil))) (.nm 1) b_odd_square_3)
    (.cons (.ret (.cst .non))
    .nil)))
def b_square_value : LB :=
  (.cons (.ex (.call "check_family" (.cons (.var 0) .nil)))
    (.cons (.set 3 (.blt .len (.cons (.idx (.var 0) (.cst (.int 1))) .nil)))
    (.cons (.ifs (.bop false (.cons (.nt (.isi (.cons (.var 1) (.cons (.ty .tuple) .nil)))) (.cons (.cmp .Eq (.var 1) (.tup .nil)) (.cons (.nt (.blt .all (.cons (.lc [4] (.of (.var 1)) (.nm 4) .none (.call "is_between" (.cons (.var 4) (.cons (.cst (.int 0)) (.cons (.bin .Sub (.var 3) (.cst (.int 1))) .nil))))) .nil))) .nil)))) (.cons (.rai "InvalidSet")
    .nil) .nil)
    (.cons (.ifs (.nt (.blt .all (.cons (.lc [4] (.rng (.cons (.bin .Sub (.blt .len (.cons (.var 1) .nil)) (.cst (.int 1))) .nil)) (.nm 4) .none (.cmp .Lt (.idx (.var 1) (.var 4)) (.idx (.var 1) (.bin .Add (.var 4) (.cst (.int 1)))))) .nil))) (.cons (.rai "InvalidSet")
    .nil) .nil)
    (.cons (.ex (.call "check_lot" (.cons (.var 0) (.cons (.var 2) .nil))))
    (.cons (.ifs (.cmp .NotEq (.blt .len (.cons (.var 2) .nil)) (.blt .len (.cons (.var 1) .nil))) (.cons (.rai "InvalidLot")
    .nil) .nil)
    (.cons (.ret (.call "found_value" (.cons (.var 0) (.cons (.var 1) (.cons (.var 2) .nil)))))
    .nil)))))))
def b__law_det_1 : LB :=
  (.cons (.ifs (.cmp .NotEq (.idx (.idx (.var 0) (.var 3)) (.cst (.int 0))) (.cst (.int 0))) (.cons (.setLc 4 (.lc [5] (.rng (.cons (.blt .len (.cons (.var 0) .nil)) .nil)) (.nm 5) (.some (.cmp .NotEq (.var 5) (.var 3))) (.slc (.idx (.var 0) (.var 5)) (.some (.cst (.int 1))) .none)))
    (.cons (.set 1 (.bin .Add (.var 1) (.bin .Mult (.bin .Mult (.var 2) (.idx (.idx (.var 0) (.var 3)) (.cst (.int 0)))) (.call "_law_det" (.cons (.var 4) .nil)))))
    .nil)) .nil)
    (.cons (.set 2 (.bin .Sub (.cst (.int 0)) (.var 2)))
    .nil))
def b__law_det : LB :=
  (.cons (.ifs (.cmp .Eq (.blt .len (.cons (.var 0) .nil)) (.cst (.int 1))) (.cons (.ret (.idx (.idx (.var 0) (.cst (.int 0))) (.cst (.int 0))))
    .nil) .nil)
    (.cons (.asg (.tp [1, 2]) (.tup (.cons (.cst (.int 0)) (.cons (.cst (.int 1)) .nil))))
    (.cons (.for_ (.rng (.cons (.blt .len (.cons (.var 0) .nil)) .nil)) (.nm 3) b__law_det_1)
    (.cons (.ret (.var 1))
    .nil))))
def b__law_sets_1 : LB :=
  (.cons (.set 4 (.bin .Add (.var 4) (.lc [6] (.rng (.cons (.var 0) .nil)) (.nm 6) (.some (.bop false (.cons (.cmp .Eq (.var 5) (.tup .nil)) (.cons (.cmp .Lt (.idx (.var 5) (.neg (.cst (.int 1)))) (.var 6)) .nil)))) (.bin .Add (.var 5) (.tup (.cons (.var 6) .nil))))))
    .nil)
def b__law_sets_2 : LB :=
  (.cons (.set 4 (.lst .nil))
    (.cons (.for_ (.of (.var 2)) (.nm 5) b__law_sets_1)
    (.cons (.set 2 (.var 4))
    .nil)))
def b__law_sets : LB :=
  (.cons (.set 2 (.lst (.cons (.tup .nil) .nil)))
    (.cons (.for_ (.rng (.cons (.var 1) .nil)) (.nm 3) b__law_sets_2)
    (.cons (.ret (.var 2))
    .nil)))
def b__law_odd_1 : LB :=
  (.cons (.setLc 4 (.lc [6] (.of (.var 2)) (.nm 6) .none (.lc [5] (.of (.var 3)) (.nm 5) .none (.blt .int (.cons (.cmp .In (.var 5) (.idx (.idx (.var 0) (.cst (.int 1))) (.var 6))) .nil)))))
    (.cons (.ifs (.cmp .Gt (.blt .abs (.cons (.call "_law_det" (.cons (.var 4) .nil)) .nil)) (.cst (.int 1))) (.cons (.ret (.tup (.cons (.var 2) (.cons (.var 3) .nil))))
    .nil) .nil)
    .nil))
def b__law_odd_2 : LB :=
  (.cons (.for_ (.of (.call "_law_sets" (.cons (.idx (.var 0) (.cst (.int 0))) (.cons (.var 1) .nil)))) (.nm 3) b__law_odd_1)
    .nil)
def b__law_odd_3 : LB :=
  (.cons (.for_ (.of (.call "_law_sets" (.cons (.blt .len (.cons (.idx (.var 0) (.cst (.int 1))) .nil)) (.cons (.var 1) .nil)))) (.nm 2) b__law_odd_2)
    .nil)
def b__law_odd : LB :=
  (.cons (.for_ (.rng (.cons (.cst (.int 1)) (.cons (.bin .Add (.blt .min (.cons (.idx (.var 0) (.cst (.int 0))) (.cons (.blt .len (.cons (.idx (.var 0) (.cst (.int 1))) .nil)) .nil))) (.cst (.int 1))) .nil))) (.nm 1) b__law_odd_3)
    (.cons (.ret (.cst .non))
    .nil))
def b__law_rounds_1 : LB :=
  (.cons (.set 4 (.call "_law_plus" (.cons (.var 4) (.cons (.idx (.var 1) (.var 5)) .nil))))
    .nil)
def b__law_rounds_2 : LB :=
  (.cons (.set 4 (.tup (.cons (.cst (.int 0)) (.cons (.cst (.int 1)) .nil))))
    (.cons (.for_ (.of (.var 3)) (.nm 5) b__law_rounds_1)
    (.cons (.set 6 (.blt .sum (.cons (.lc [5] (.of (.var 3)) (.nm 5) .none (.idx (.var 2) (.var 5))) .nil)))
    (.cons (.ifs (.bop false (.cons (.cmp .Lt (.var 6) (.bin .FloorDiv (.idx (.var 4) (.cst (.int 0))) (.idx (.var 4) (.cst (.int 1))))) (.cons (.cmp .Gt (.var 6) (.bin .Sub (.cst (.int 0)) (.bin .FloorDiv (.bin .Sub (.cst (.int 0)) (.idx (.var 4) (.cst (.int 0)))) (.idx (.var 4) (.cst (.int 1)))))) .nil))) (.cons (.ret (.cst (.bl false)))
    .nil) .nil)
    .nil))))
def b__law_rounds : LB :=
  (.cons (.for_ (.of (.idx (.var 0) (.cst (.int 1)))) (.nm 3) b__law_rounds_2)
    (.cons (.ret (.cst (.bl true)))
    .nil))
def b__law_stretches_1 : LB :=
  (.cons (.set 5 (.call "_law_draw" (.cons (.var 0) (.cons (.var 1) (.cons (.var 2) .nil)))))
    (.cons (.set 6 (.rngT2 (.var 5) (.bin .Add (.bin .Add (.var 5) (.cst (.int 1))) (.call "_law_draw" (.cons (.var 0) (.cons (.var 1) (.cons (.bin .Sub (.var 2) (.var 5)) .nil)))))))
    (.cons (.set 3 (.bin .Add (.var 3) (.ite (.cmp .NotIn (.var 6) (.var 3)) (.lst (.cons (.var 6) .nil)) (.lst .nil))))
    .nil)))
def b__law_stretches : LB :=
  (.cons (.par 2 3 (.cons (.bin .Add (.cst (.int 2)) (.call "_law_draw" (.cons (.var 0) (.cons (.var 1) (.cons (.cst (.int 5)) .nil))))) (.cons (.lst .nil) .nil)))
    (.cons (.for_ (.rng (.cons (.bin .Add (.cst (.int 1)) (.call "_law_draw" (.cons (.var 0) (.cons (.var 1) (.cons (.cst (.int 8)) .nil))))) .nil)) (.nm 4) b__law_stretches_1)
    (.cons (.ret (.tup (.cons (.var 2) (.cons (.blt .tuple (.cons (.blt .sorted (.cons (.var 3) .nil)) .nil)) .nil))))
    .nil)))
def b_colours_with : LB :=
  (.cons (.ex (.call "check_family" (.cons (.var 0) .nil)))
    (.cons (.ifs (.bop false (.cons (.nt (.isi (.cons (.var 1) (.cons (.ty .tuple) .nil)))) (.cons (.cmp .NotEq (.blt .len (.cons (.var 1) .nil)) (.blt .len (.cons (.idx (.var 0) (.cst (.int 1))) .nil))) .nil))) (.cons (.rai "InvalidSums")
    .nil) .nil)
    (.cons (.ifs (.nt (.blt .all (.cons (.lc [2] (.of (.var 1)) (.nm 2) .none (.bop true (.cons (.isi (.cons (.var 2) (.cons (.ty .int) .nil))) (.cons (.nt (.isi (.cons (.var 2) (.cons (.ty .bool) .nil)))) .nil)))) .nil))) (.cons (.rai "InvalidSums")
    .nil) .nil)
    (.cons (.ret (.blt .tuple (.cons (.lc [3] (.of (.call "all_colours" (.cons (.idx (.var 0) (.cst (.int 0))) .nil))) (.nm 3) (.some (.cmp .Eq (.call "found_sums" (.cons (.var 0) (.cons (.var 3) .nil))) (.var 1))) (.var 3)) .nil)))
    .nil))))
def b_put_in : LB :=
  (.cons (.ifs (.bop false (.cons (.nt (.call "is_lot" (.cons (.idx (.var 0) (.cst (.int 0))) (.cons (.var 1) .nil)))) (.cons (.cmp .In (.var 1) (.idx (.var 0) (.cst (.int 1)))) .nil))) (.cons (.rai "InvalidSet")
    .nil) .nil)
    (.cons (.ifs (.cmp .Eq (.blt .len (.cons (.idx (.var 0) (.cst (.int 1))) .nil)) (.cst (.int 8))) (.cons (.rai "TooMany")
    .nil) .nil)
    (.cons (.ret (.tup (.cons (.idx (.var 0) (.cst (.int 0))) (.cons (.blt .tuple (.cons (.blt .sorted (.cons (.bin .Add (.idx (.var 0) (.cst (.int 1))) (.tup (.cons (.var 1) .nil))) .nil)) .nil)) .nil))))
    .nil)))
def b_with_set : LB :=
  (.cons (.ex (.call "check_family" (.cons (.var 0) .nil)))
    (.cons (.ret (.call "put_in" (.cons (.var 0) (.cons (.var 1) .nil))))
    .nil))
def b_taken_out : LB :=
  (.cons (.ifs (.nt (.call "is_between" (.cons (.var 1) (.cons (.cst (.int 0)) (.cons (.bin .Sub (.blt .len (.cons (.idx (.var 0) (.cst (.int 1))) .nil)) (.cst (.int 1))) .nil))))) (.cons (.rai "InvalidSet")
    .nil) .nil)
    (.cons (.ifs (.cmp .Eq (.blt .len (.cons (.idx (.var 0) (.cst (.int 1))) .nil)) (.cst (.int 1))) (.cons (.rai "LastOne")
    .nil) .nil)
    (.cons (.ret (.tup (.cons (.idx (.var 0) (.cst (.int 0))) (.cons (.bin .Add (.slc (.idx (.var 0) (.cst (.int 1))) .none (.some (.var 1))) (.slc (.idx (.var 0) (.cst (.int 1))) (.some (.bin .Add (.var 1) (.cst (.int 1)))) .none)) .nil))))
    .nil)))
def b_without : LB :=
  (.cons (.ex (.call "check_family" (.cons (.var 0) .nil)))
    (.cons (.ret (.call "taken_out" (.cons (.var 0) (.cons (.var 1) .nil))))
    .nil))
def b_beside : LB :=
  (.cons (.ex (.call "check_family" (.cons (.var 0) .nil)))
    (.cons (.ex (.call "check_family" (.cons (.var 1) .nil)))
    (.cons (.ifs (.bop false (.cons (.cmp .Gt (.bin .Add (.idx (.var 0) (.cst (.int 0))) (.idx (.var 1) (.cst (.int 0)))) (.cst (.int 7))) (.cons (.cmp .Gt (.bin .Add (.blt .len (.cons (.idx (.var 0) (.cst (.int 1))) .nil)) (.blt .len (.cons (.idx (.var 1) (.cst (.int 1))) .nil))) (.cst (.int 8))) .nil))) (.cons (.rai "TooMany")
    .nil) .nil)
    (.cons (.set 2 (.blt .tuple (.cons (.lc [4] (.of (.idx (.var 1) (.cst (.int 1)))) (.nm 4) .none (.blt .tuple (.cons (.lc [3] (.of (.var 4)) (.nm 3) .none (.bin .Add (.var 3) (.idx (.var 0) (.cst (.int 0))))) .nil))) .nil)))
    (.cons (.ret (.tup (.cons (.bin .Add (.idx (.var 0) (.cst (.int 0))) (.idx (.var 1) (.cst (.int 0)))) (.cons (.blt .tuple (.cons (.blt .sorted (.cons (.bin .Add (.idx (.var 0) (.cst (.int 1))) (.var 2)) .nil)) .nil)) .nil))))
    .nil)))))
def b__law_put : LB :=
  (.cons (.asg (.tp [3, 4]) (.var 0))
    (.cons (.set 5 (.call "_law_outcome" (.cons (.cst (.int 0)) (.cons (.tup (.cons (.var 0) (.cons (.var 1) .nil))) .nil))))
    (.cons (.ifs (.cmp .In (.var 1) (.var 4)) (.cons (.ret (.cmp .Eq (.var 5) (.call "_law_raises" (.cons (.cst (.str "set")) .nil))))
    .nil) .nil)
    (.cons (.ifs (.cmp .Eq (.blt .len (.cons (.var 4) .nil)) (.cst (.int 8))) (.cons (.ret (.cmp .Eq (.var 5) (.call "_law_raises" (.cons (.cst (.str "many")) .nil))))
    .nil) .nil)
    (.cons (.set 6 (.tup (.cons (.var 3) (.cons (.blt .tuple (.cons (.blt .sorted (.cons (.bin .Add (.var 4) (.tup (.cons (.var 1) .nil))) .nil)) .nil)) .nil))))
    (.cons (.ifs (.bop false (.cons (.cmp .NotEq (.var 5) (.tup (.cons (.cst (.str "returned")) (.cons (.var 6) .nil)))) (.cons (.cmp .Lt (.call "least_uneven" (.cons (.var 6) .nil)) (.var 2)) .nil))) (.cons (.ret (.cst (.bl false)))
    .nil) .nil)
    (.cons (.ret (.cmp .Eq (.call "without" (.cons (.var 6) (.cons (.lm .index (.idx (.var 6) (.cst (.int 1))) (.var 1)) .nil))) (.var 0)))
    .nil)))))))
def b_format_family : LB :=
  (.cons (.ex (.call "check_family" (.cons (.var 0) .nil)))
    (.cons (.ret (.call "family_text" (.cons (.var 0) .nil)))
    .nil))
end LC

end
section
set_option maxHeartbeats 2000000
/-! SL2: one step of the evaluator each: the later constructs. -/
namespace LC
open PySem PySem.Spec PyProof.Rows L2
section
variable {cf : Str → List D → M D} {ρ : Env} {S : Store}
def lmK (m : LM) (o d : D) : M D := fun S => match vw S o with
  | .lst xs => M.opt (fLM m xs d) S
  | _ => .bad
def dictK (x : D) : M D := match x with
  | .lst xs => match pairsOf xs with
    | some kvs => newDict (mergeD [] kvs)
    | none => M.bad
  | _ => M.bad
def rngK1 (x : D) : M D := match x with
  | .int j => if -1000000 ≤ j ∧ j ≤ 1000000 then M.pure (.tup (rangeD 0 j.toNat)) else M.bad
  | _ => M.bad
def rngK2 (x y : D) : M D := match x, y with
  | .int i, .int j => if -1000000 ≤ i ∧ i ≤ 1000000 ∧ -1000000 ≤ j ∧ j ≤ 1000000 then M.pure (.tup (rangeD i (j - i).toNat)) else M.bad
  | _, _ => M.bad
def enmK (x : D) : M Src := match x with
  | .tup xs => M.pure (.enm (.fix xs))
  | _ => M.bad
def callK (fs : List Str) (cf : Str → List D → M D) (el : M (List D)) (f : D) : M D := match f with
  | .fn x => if fs.contains x = true then M.bind el (cf x) else M.bad
  | _ => M.bad
theorem e_isx (rs : List Str) (y : Str) (a : LE) : evE cf (.isx rs y a) ρ S = (evE cf a ρ S).bind fun x S1 => M.opt (fIsx rs y S1 [x, .fn y]) S1 := by
  show (((evE cf a ρ S).bind fun x => M.bind (M.bind (M.pure (D.fn y)) fun z => M.bind (M.pure []) fun r => M.pure (z :: r)) fun xs => M.pure (x :: xs)).bind fun ds => fun S => M.opt (fIsx rs y S ds) S) = _
  cases evE cf a ρ S <;> rfl
theorem e_isv (rs : List Str) (a : LE) : evE cf (.isv rs a) ρ S = (evE cf a ρ S).bind fun x S1 => M.opt (fIsv rs S1 [x, .ty "ValueError"]) S1 := by
  show (((evE cf a ρ S).bind fun x => M.bind (M.bind (M.pure (D.ty "ValueError")) fun z => M.bind (M.pure []) fun r => M.pure (z :: r)) fun xs => M.pure (x :: xs)).bind fun ds => fun S => M.opt (fIsv rs S ds) S) = _
  cases evE cf a ρ S <;> rfl
theorem e_lm (m : LM) (o e : LE) : evE cf (.lm m o e) ρ S = (evE cf o ρ S).bind fun o S1 => (seeL o S1).bind fun _ S2 => (evE cf e ρ S2).bind fun d S3 => lmK m o d S3 := (rfl)
theorem e_rngT1 (a : LE) : evE cf (.rngT1 a) ρ S = (evE cf a ρ S).bind fun x S1 => rngK1 x S1 := (rfl)
theorem e_rngT2 (a b : LE) : evE cf (.rngT2 a b) ρ S = (evE cf a ρ S).bind fun x S1 => (evE cf b ρ S1).bind fun y S2 => rngK2 x y S2 := (rfl)
theorem e_dget (a b : LE) : evE cf (.dget a b) ρ S = (evE cf a ρ S).bind fun o S1 => (evE cf b ρ S1).bind fun k S2 => M.opt (dgetD S2 o k) S2 := (rfl)
theorem e_din (a b : LE) : evE cf (.din a b) ρ S = (evE cf a ρ S).bind fun k S1 => (evE cf b ρ S1).bind fun o S2 => M.opt ((dinD S2 o k).map D.bl) S2 := (rfl)
theorem e_dict (a : LE) : evE cf (.dict a) ρ S = (evE cf a ρ S).bind fun x S1 => dictK x S1 := (rfl)
theorem e_dictZ (es : LAs) : evE cf (.dictZ es) ρ S = (evA cf es ρ S).bind fun ds S1 => dictZM (fun _ => M.pure ds) ρ S1 := (rfl)
theorem e_callC (fs : List Str) (f a : LE) (es : LAs) : evE cf (.callC fs f a es) ρ S = (evE cf f ρ S).bind fun x S1 => callK fs cf (fun S1 => evA cf (.cons a es) ρ S1) x S1 := (rfl)
theorem i_enm (a : LE) : evI cf (.enm a) ρ S = (evE cf a ρ S).bind fun x S1 => enmK x S1 := (rfl)
theorem s_app (o e : LE) : exS cf (.app o e) ρ S = (evE cf o ρ S).bind fun o S1 => (lstAt o S1).bind fun _ S2 => (evE cf e ρ S2).bind fun d S3 => (appAt o d S3).bind fun _ S4 => .ok (.nx ρ) S4 := (rfl)
theorem s_try_ok {i n y : Nat} {x : Str} {rs : List Str} {e : LE} {d : D} {S1 : Store} (h : evE cf e ρ S = .ok d S1) : exS cf (.tryE i x rs n y e) ρ S = .ok (.nx (ρ.set i (some d))) S1 := by
  show (match evE cf e ρ S with
    | .ok d S1 => R.ok (Fl.nx (ρ.set i (some d))) S1
    | .exc z S1 => if (rs.contains z && decide (n < ρ.length)) = true then .ok (.nx (((ρ.set n none).set y (some (.exc z))).set n none)) S1 else .bad
    | .bad => .bad) = _
  rw [h]
theorem s_try_exc {i n y : Nat} {x : Str} {rs : List Str} {e : LE} {z : Str} {S1 : Store} (h : evE cf e ρ S = .exc z S1) (hr : rs.contains z = true) (hn : n < ρ.length) : exS cf (.tryE i x rs n y e) ρ S = .ok (.nx (((ρ.set n none).set y (some (.exc z))).set n none)) S1 := by
  show (match evE cf e ρ S with
    | .ok d S1 => R.ok (Fl.nx (ρ.set i (some d))) S1
    | .exc z S1 => if (rs.contains z && decide (n < ρ.length)) = true then .ok (.nx (((ρ.set n none).set y (some (.exc z))).set n none)) S1 else .bad
    | .bad => .bad) = _
  rw [h]
  show (if (rs.contains z && decide (n < ρ.length)) = true then R.ok (Fl.nx (((ρ.set n none).set y (some (.exc z))).set n none)) S1 else .bad) = _
  rw [hr, decide_eq_true hn]
  rfl
@[simp] theorem seeL_l (xs : List D) (S : Store) : seeL (.lst xs) S = .ok () S := (rfl)
@[simp] theorem lmK_l (m : LM) (xs : List D) (d : D) (S : Store) : lmK m (.lst xs) d S = M.opt (fLM m xs d) S := (rfl)
@[simp] theorem enmK_t (xs : List D) (S : Store) : enmK (.tup xs) S = .ok (.enm (.fix xs)) S := (rfl)
theorem rngK1_i {j : Int} (h : -1000000 ≤ j ∧ j ≤ 1000000) (S : Store) : rngK1 (.int j) S = .ok (.tup (rangeD 0 j.toNat)) S := by
  show (if -1000000 ≤ j ∧ j ≤ 1000000 then M.pure (D.tup (rangeD 0 j.toNat)) else M.bad) S = _
  rw [if_pos h]
  rfl
theorem rngK2_i {i j : Int} (h : -1000000 ≤ i ∧ i ≤ 1000000 ∧ -1000000 ≤ j ∧ j ≤ 1000000) (S : Store) : rngK2 (.int i) (.int j) S = .ok (.tup (rangeD i (j - i).toNat)) S := by
  show (if -1000000 ≤ i ∧ i ≤ 1000000 ∧ -1000000 ≤ j ∧ j ≤ 1000000 then M.pure (D.tup (rangeD i (j - i).toNat)) else M.bad) S = _
  rw [if_pos h]
  rfl
theorem callK_fn {fs : List Str} {x : Str} (h : fs.contains x = true) (el : M (List D)) (S : Store) : callK fs cf el (.fn x) S = (el S).bind fun ds S1 => cf x ds S1 := by
  show (if fs.contains x = true then M.bind el (cf x) else M.bad) S = _
  rw [if_pos h]
  rfl
theorem dictZ_i {ks : List Int} {ys : List D} (h : ks.length = ys.length) (S : Store) : dictZM (fun _ => M.pure [tI ks, .tup ys]) ρ S = .ok (.cell S.length) (S ++ [.dI (mergeD [] (ks.zip ys))]) := by
  show (match intsOf (ks.map D.int) with
    | some ks => if ks.length = ys.length then newDict (mergeD [] (ks.zip ys)) else M.bad
    | none => M.bad) S = _
  rw [intsOf_map]
  show (if ks.length = ys.length then newDict (mergeD [] (ks.zip ys)) else M.bad) S = _
  rw [if_pos h]
  rfl
end
end LC

end
section
set_option maxHeartbeats 2000000
/-! Q0: stores that grow; walks with growth; two clauses with a test; enumerate; the sort by what it comes to. -/
namespace LC
open PySem PySem.Spec PyProof.Rows L2
def Gr (S S' : Store) : Prop := ∃ E, S' = S ++ E
theorem Gr.refl (S : Store) : Gr S S := ⟨[], by simp⟩
theorem Gr.trans {S S' S'' : Store} (h : Gr S S') (h' : Gr S' S'') : Gr S S'' := by
  obtain ⟨E, rfl⟩ := h
  obtain ⟨E', rfl⟩ := h'
  exact ⟨E ++ E', by simp⟩
theorem Gr.app (S E : Store) : Gr S (S ++ E) := ⟨E, rfl⟩
theorem Gr.get {S S' : Store} (h : Gr S S') {n : Nat} {c : Cell} (e : S[n]? = some c) : S'[n]? = some c := by
  obtain ⟨E, rfl⟩ := h
  have hn := (List.getElem?_eq_some_iff.mp e).1
  rw [List.getElem?_append_left hn]
  exact e
/-- a run that gives d while the store grows -/
def Ok {α : Type} (r : R α) (a : α) (S : Store) : Prop := ∃ S', r = .ok a S' ∧ Gr S S'
theorem Ok.of {α : Type} {r : R α} {a : α} {S : Store} (h : r = .ok a S) : Ok r a S := ⟨S, h, Gr.refl S⟩
theorem Ok.to {α : Type} {r : R α} {a : α} {S S' : Store} (h : Ok r a S') (g : Gr S S') : Ok r a S := by
  obtain ⟨S2, e, g2⟩ := h
  exact ⟨S2, e, g.trans g2⟩
theorem Ok.wp {α : Type} {r : R α} {a : α} {S : Store} {Q : α → Store → Prop} (h : Ok r a S) (q : ∀ S', Gr S S' → Q a S') : Wp r Q := by
  obtain ⟨S2, rfl, g⟩ := h
  exact q S2 g
theorem Wp.toOk {α : Type} {r : R α} {a : α} {S : Store} (h : Wp r fun b S' => b = a ∧ Gr S S') : Ok r a S := by
  obtain ⟨b, S', e, rfl, g⟩ := h.get
  exact ⟨S', e, g⟩
theorem Ok.bind {α β : Type} {r : R α} {a : α} {S : Store} {f : α → M β} {b : β} (h : Ok r a S) (k : ∀ S', Gr S S' → Ok (f a S') b S) : Ok (r.bind f) b S := by
  obtain ⟨S2, rfl, g⟩ := h
  exact k S2 g
section
variable {cf : Str → List D → M D} {ρ : Env} {S S1 : Store}
theorem lcE_gr {α : Type} {vs : List Nat} {s : LI} {tg : LT} {c : LO} {e : LE} (l : List α) (f : α → D) (p : α → Bool) (g : α → D) (he : evI cf s ρ S = .ok (.fix (l.map f)) S1) (hg : Gr S S1)
    (hs : ∀ a ∈ l, ∀ S', Gr S S' → ∃ ρ', asgT tg (f a) (wipeE ρ vs) = some ρ' ∧ Ok (condM (evO cf c) ρ' S') (p a) S' ∧ (p a = true → ∀ S'', Gr S S'' → Ok (evE cf e ρ' S'') (g a) S'')) : Ok (evE cf (.lc vs s tg c e) ρ S) (.lst ((l.filter p).map g)) S := by
  have h := lcE_wp (cf := cf) (ρ := ρ) (S := S) (vs := vs) (s := s) (tg := tg) (c := c) (e := e) he (fun i acc S' => Gr S S' ∧ acc = ((l.take i).filter p).map g) ⟨hg, rfl⟩ (fun i d acc S' hx hI => by
    obtain ⟨hG, rfl⟩ := hI
    rw [List.getElem?_map] at hx
    cases q : l[i]? with
    | none => rw [q] at hx; cases hx
    | some a =>
      rw [q] at hx
      cases hx
      obtain ⟨ρ', e1, e2, e3⟩ := hs a (List.mem_of_getElem? q) S' hG
      have et : l.take (i + 1) = l.take i ++ [a] := by rw [List.take_add_one, q]; rfl
      refine ⟨ρ', e1, e2.wp fun S2 g2 => ?_⟩
      cases hp : p a with
      | true =>
        rw [if_pos rfl]
        refine (e3 hp S2 (hG.trans g2)).wp fun S3 g3 => ⟨(hG.trans g2).trans g3, ?_⟩
        rw [et, List.filter_append, List.map_append]
        simp [hp]
      | false =>
        rw [if_neg (by decide)]
        refine ⟨hG.trans g2, ?_⟩
        rw [et, List.filter_append, List.map_append]
        simp [hp])
  obtain ⟨d, S', e, ys, rfl, g, rfl⟩ := h.get
  rw [List.length_map, List.take_length] at e
  exact ⟨S', e, g⟩
theorem lcE_grm {α : Type} {vs : List Nat} {s : LI} {tg : LT} {e : LE} (l : List α) (f : α → D) (g : α → D) (he : evI cf s ρ S = .ok (.fix (l.map f)) S1) (hg : Gr S S1)
    (hs : ∀ a ∈ l, ∀ S', Gr S S' → ∃ ρ', asgT tg (f a) (wipeE ρ vs) = some ρ' ∧ Ok (evE cf e ρ' S') (g a) S') : Ok (evE cf (.lc vs s tg .none e) ρ S) (.lst (l.map g)) S := by
  have h := lcE_gr (cf := cf) (ρ := ρ) (S := S) (vs := vs) (s := s) (tg := tg) (c := .none) (e := e) l f (fun _ => true) g he hg (fun a ha S' hS => by
    obtain ⟨ρ', e1, e2⟩ := hs a ha S' hS
    refine ⟨ρ', e1, Ok.of rfl, fun _ S2 h2 => ?_⟩
    obtain ⟨ρ2, e3, e4⟩ := hs a ha S2 h2
    rw [e1] at e3
    cases e3
    exact e4)
  rw [List.filter_eq_self.mpr fun _ _ => rfl] at h
  exact h
/-- two clauses, the second one with a test -/
theorem lc2F_eq {α β : Type} {vs vs1 : List Nat} {s s1 : LI} {tg tg1 : LT} {c1 : LO} {e : LE} (l : List α) (f : α → D) (l2 : List β) (f2 : β → D) (p : α → β → Bool) (g : α → β → D) (he : evI cf s ρ S = .ok (.fix (l.map f)) S)
    (hs : ∀ a ∈ l, ∃ ρ', asgT tg (f a) (wipeE ρ vs) = some ρ' ∧ evI cf s1 ρ' S = .ok (.fix (l2.map f2)) S ∧ ∀ b ∈ l2, ∃ ρ2, asgT tg1 (f2 b) (wipeE ρ' vs1) = some ρ2 ∧ condM (evO cf c1) ρ2 S = .ok (p a b) S ∧ (p a b = true → evE cf e ρ2 S = .ok (g a b) S)) (hl : l.length * l2.length < line) :
    evE cf (.lc2 vs vs1 s tg .none s1 tg1 c1 e) ρ S = .ok (.lst (l.flatMap fun a => (l2.filter (p a)).map (g a))) S := by
  show (evI cf s ρ S).bind (fun s => M.bind (walkAll s (lcBody2 vs vs1 tg none (evI cf s1) tg1 (evO cf c1) (evE cf e) ρ) []) fun ys => M.pure (LC.D.lst ys)) = _
  rw [he]
  have h1 : Wp (walkAll (.fix (l.map f)) (lcBody2 vs vs1 tg none (evI cf s1) tg1 (evO cf c1) (evE cf e) ρ) [] S) (fun ys S' => S' = S ∧ (ys = (l.take (l.map f).length).flatMap fun a => (l2.filter (p a)).map (g a)) ∧ ys.length ≤ (l.map f).length * l2.length) := by
    refine wp_walkAll (fun i acc S' => S' = S ∧ (acc = (l.take i).flatMap fun a => (l2.filter (p a)).map (g a)) ∧ acc.length ≤ i * l2.length) ⟨rfl, rfl, by simp⟩ fun i d acc S' hx hI => ?_
    obtain ⟨rfl, hacc, hlen⟩ := hI
    rw [List.getElem?_map] at hx
    cases q : l[i]? with
    | none => rw [q] at hx; cases hx
    | some a =>
      rw [q] at hx
      cases hx
      obtain ⟨ρ', e1, e2, e3⟩ := hs a (List.mem_of_getElem? q)
      have et : l.take (i + 1) = l.take i ++ [a] := by rw [List.take_add_one, q]; rfl
      have hi := (List.getElem?_eq_some_iff.mp q).1
      have hb : i * l2.length + l2.length ≤ l.length * l2.length := by
        have : (i + 1) * l2.length ≤ l.length * l2.length := Nat.mul_le_mul_right _ hi
        rw [Nat.add_mul] at this
        omega
      unfold lcBody2
      rw [e1]
      refine Wp.bind (Wp.nox (Wp.ok ?_))
      rw [if_pos rfl]
      refine Wp.bind (Wp.nox (Wp.of e2 ?_))
      have h2 : Wp (walkAll (.fix (l2.map f2)) (lcBody1 vs1 tg1 (evO cf c1) (evE cf e) ρ') acc S') (fun ys S2 => S2 = S' ∧ (ys = acc ++ ((l2.take (l2.map f2).length).filter (p a)).map (g a)) ∧ ys.length ≤ acc.length + (l2.map f2).length) := by
        refine wp_walkAll (fun j acc2 S2 => S2 = S' ∧ (acc2 = acc ++ ((l2.take j).filter (p a)).map (g a)) ∧ acc2.length ≤ acc.length + j) ⟨rfl, by simp, by simp⟩ fun j d acc2 S2 hx2 hI2 => ?_
        obtain ⟨rfl, rfl, hlen2⟩ := hI2
        rw [List.getElem?_map] at hx2
        cases q2 : l2[j]? with
        | none => rw [q2] at hx2; cases hx2
        | some b =>
          rw [q2] at hx2
          cases hx2
          obtain ⟨ρ2, e4, e5, e6⟩ := e3 b (List.mem_of_getElem? q2)
          have et2 : l2.take (j + 1) = l2.take j ++ [b] := by rw [List.take_add_one, q2]; rfl
          have hj := (List.getElem?_eq_some_iff.mp q2).1
          unfold lcBody1
          rw [e4]
          refine Wp.bind (Wp.nox (Wp.of e5 ?_))
          cases hp : p a b with
          | true =>
            rw [if_pos rfl]
            refine Wp.bind (Wp.nox (Wp.of (e6 hp) ?_))
            rw [if_pos (by omega)]
            refine Wp.ok ⟨rfl, ?_, by rw [List.length_append]; show _ + 1 ≤ _; omega⟩
            rw [et2, List.filter_append, List.map_append, List.append_assoc]
            simp [hp]
          | false =>
            rw [if_neg (by decide)]
            refine Wp.ok ⟨rfl, ?_, by omega⟩
            rw [et2, List.filter_append, List.map_append]
            simp [hp]
      refine h2.mono fun ys S2 h => ?_
      obtain ⟨h3, h4, h5⟩ := h
      rw [List.length_map] at h5
      refine ⟨h3, ?_, by rw [Nat.add_mul]; omega⟩
      rw [h4, et, List.flatMap_append, List.length_map, List.take_length, hacc]
      simp
  obtain ⟨ys, S', e1, e2, e3, _⟩ := h1.get
  subst e2
  subst e3
  show (walkAll (.fix (l.map f)) (lcBody2 vs vs1 tg none (evI cf s1) tg1 (evO cf c1) (evE cf e) ρ) [] S').bind _ = _
  rw [e1, List.length_map, List.take_length]
  rfl
/-- over enumerate(tuple), nothing changes -/
theorem lcE_enm {α : Type} {vs : List Nat} {s : LI} {tg : LT} {e : LE} (l : List α) (f : α → D) (g : Nat → α → D) (he : evI cf s ρ S = .ok (.enm (.fix (l.map f))) S)
    (hs : ∀ i a, l[i]? = some a → ∃ ρ', asgT tg (.tup [.int (i : Nat), f a]) (wipeE ρ vs) = some ρ' ∧ evE cf e ρ' S = .ok (g i a) S) : evE cf (.lc vs s tg .none e) ρ S = .ok (.lst (l.mapIdx g)) S := by
  show ((evI cf s ρ S).bind fun s => M.bind (walkAll s (lcBody vs tg (evO cf .none) (evE cf e) ρ) []) fun ys => M.pure (LC.D.lst ys)) = _
  rw [he]
  have key : ∀ (n i : Nat) (acc : List D), i + n = l.length + 1 → i ≤ l.length → acc = (l.mapIdx g).take i → walkGo (.enm (.fix (l.map f))) (lcBody vs tg (evO cf .none) (evE cf e) ρ) n i acc S = .ok (l.mapIdx g) S := by
    intro n
    induction n with
    | zero => intro i acc h1 h2; omega
    | succ n ih =>
      intro i acc h1 h2 h3
      show (match srcAt (.enm (.fix (l.map f))) S i with
        | none => R.bad
        | some none => .ok acc S
        | some (some d) => (lcBody vs tg (evO cf .none) (evE cf e) ρ acc d S).bind fun acc' => walkGo (.enm (.fix (l.map f))) (lcBody vs tg (evO cf .none) (evE cf e) ρ) n (i + 1) acc') = _
      have e0 : srcAt (.enm (.fix (l.map f))) S i = (match (some (l.map f)[i]? : Option (Option D)) with
        | some (some d) => some (some (D.tup [.int (i : Nat), d]))
        | r => r) := rfl
      rw [e0, List.getElem?_map]
      cases q : l[i]? with
      | none =>
        have hi := List.getElem?_eq_none_iff.mp q
        have : i = l.length := by omega
        subst this
        show R.ok acc S = _
        rw [h3, List.take_of_length_le (by simp)]
      | some a =>
        have hi := (List.getElem?_eq_some_iff.mp q).1
        obtain ⟨ρ', e1, e2⟩ := hs i a q
        show (lcBody vs tg (evO cf .none) (evE cf e) ρ acc (.tup [.int (i : Nat), f a]) S).bind _ = _
        have eb : lcBody vs tg (evO cf .none) (evE cf e) ρ acc (.tup [.int (i : Nat), f a]) S = .ok (acc ++ [g i a]) S := by
          unfold lcBody
          rw [e1]
          show ((R.ok true S).nox.bind _) = _
          show (M.bind (M.nox (evE cf e ρ')) _ S) = _
          show ((evE cf e ρ' S).nox.bind _) = _
          rw [e2]
          rfl
        rw [eb]
        refine ih (i + 1) _ (by omega) (by omega) ?_
        rw [h3]
        have hg : (l.mapIdx g)[i]? = some (g i a) := by rw [List.getElem?_mapIdx, q]; rfl
        rw [List.take_add_one, hg]
        rfl
  show (walkGo (.enm (.fix (l.map f))) (lcBody vs tg (evO cf .none) (evE cf e) ρ) ((l.map f).length + 1) 0 [] S).bind _ = _
  rw [key _ 0 [] (by simp) (by omega) (by simp)]
  rfl
end
/-- what a sort comes to -/
theorem sorted_unique {α : Type} {le : α → α → Bool} : ∀ {zs ys : List α}, zs.Pairwise (fun a b => le a b = true) → ys.Pairwise (fun a b => le b a = false) → zs.Perm ys → zs = ys
  | [], ys, _, _, hp => (List.nil_perm.mp hp).symm ▸ rfl
  | z :: zs, [], _, _, hp => by
    have := hp.length_eq
    simp at this
  | z :: zs, y :: ys, h1, h2, hp => by
    obtain ⟨a1, a2⟩ := List.pairwise_cons.mp h1
    obtain ⟨b1, b2⟩ := List.pairwise_cons.mp h2
    have e : z = y := by
      rcases List.mem_cons.mp (hp.mem_iff.mp List.mem_cons_self) with e | hz
      · exact e
      · rcases List.mem_cons.mp (hp.mem_iff.mpr (List.mem_cons_self (a := y) (l := ys))) with e | hy
        · exact e.symm
        · have h3 := b1 z hz
          have h4 := a1 y hy
          rw [h4] at h3
          cases h3
    subst e
    rw [sorted_unique a2 b2 (List.perm_cons _ |>.mp hp)]
theorem sortD_is {xs ys : List D} (hp : ys.Perm xs) (hs : ys.Pairwise (fun a b => PySem.W.dataLe false D.pd b a = false)) : sortD xs = ys := by
  have h1 : (sortD xs).Pairwise (fun a b => PySem.W.dataLe false D.pd a b = true) := by
    unfold sortD
    exact List.pairwise_mergeSort (le := PySem.W.dataLe false D.pd) (fun a b c h1 h2 => (PySem.W.sortLe_total _ _ _).trans _ _ _ h1 h2) (fun a b => Bool.or_eq_true_iff.mpr ((PySem.W.sortLe_total _ _ _).total _ _)) xs
  have h2 : (sortD xs).Perm xs := by unfold sortD; exact List.mergeSort_perm ..
  exact sorted_unique h1 hs (h2.trans hp.symm)
end LC

end
section
set_option maxHeartbeats 2000000
/-! Q1: lots: what a set has in common with a lot, the least within a lot, lots of lots. -/
namespace LC
def ixo : List Int → Int → Nat
  | [], _ => 0
  | x :: xs, k => if x = k then 0 else ixo xs k + 1
theorem ixo_get : ∀ {L : List Int} {k : Int}, k ∈ L → L[ixo L k]? = some k
  | [], k, h => by cases h
  | x :: xs, k, h => by
    unfold ixo
    split
    · rename_i e; rw [e]; rfl
    · rename_i e
      have h : k ∈ xs := (List.mem_cons.mp h).resolve_left fun z => e z.symm
      rw [List.getElem?_cons_succ]
      exact ixo_get h
theorem ixo_lt {L : List Int} {k : Int} (h : k ∈ L) : ixo L k < L.length := (List.getElem?_eq_some_iff.mp (ixo_get h)).1
theorem ixo_of : ∀ {L : List Int} {k : Int} {i : Nat}, L.Nodup → L[i]? = some k → ixo L k = i
  | [], k, i, _, h => by simp at h
  | x :: xs, k, 0, _, h => by
    simp at h
    subst h
    unfold ixo
    rw [if_pos rfl]
  | x :: xs, k, i + 1, hn, h => by
    rw [List.getElem?_cons_succ] at h
    obtain ⟨h1, h2⟩ := List.nodup_cons.mp hn
    have hk := List.mem_of_getElem? h
    unfold ixo
    rw [if_neg (fun z : x = k => h1 (by rw [z]; exact hk)), ixo_of h2 h]
theorem inc_nodup {L : List Int} (h : L.Pairwise (· < ·)) : L.Nodup := h.imp fun h => by omega
theorem ixo_mono {L : List Int} (h : L.Pairwise (· < ·)) {k l : Int} (hk : k ∈ L) (hl : l ∈ L) (hlt : k < l) : ixo L k < ixo L l := by
  have e1 := ixo_get hk
  have e2 := ixo_get hl
  obtain ⟨b1, e1⟩ := List.getElem?_eq_some_iff.mp e1
  obtain ⟨b2, e2⟩ := List.getElem?_eq_some_iff.mp e2
  rcases Nat.lt_trichotomy (ixo L k) (ixo L l) with z | z | z
  · exact z
  · have : L[ixo L k] = L[ixo L l] := by simp only [z]
    omega
  · have := List.pairwise_iff_getElem.mp h _ _ b2 b1 z
    omega
def cut (L s : List Int) : List Int := (s.filter fun k => decide (k ∈ L)).map fun k => (ixo L k : Int)
theorem mem_cut {L s : List Int} {j : Int} : j ∈ cut L s ↔ ∃ k, k ∈ s ∧ k ∈ L ∧ j = ixo L k := by
  unfold cut
  rw [List.mem_map]
  constructor
  · rintro ⟨k, hk, rfl⟩
    obtain ⟨h1, h2⟩ := List.mem_filter.mp hk
    exact ⟨k, h1, by simpa using h2, rfl⟩
  · rintro ⟨k, h1, h2, rfl⟩
    exact ⟨k, List.mem_filter.mpr ⟨h1, by simpa using h2⟩, rfl⟩
theorem cut_inc {L s : List Int} (hL : L.Pairwise (· < ·)) (hs : s.Pairwise (· < ·)) : (cut L s).Pairwise (· < ·) := by
  unfold cut
  rw [List.pairwise_map]
  refine (hs.filter _).imp_of_mem fun {a b} ha hb hab => ?_
  have h1 : a ∈ L := by simpa using (List.mem_filter.mp ha).2
  have h2 : b ∈ L := by simpa using (List.mem_filter.mp hb).2
  have := ixo_mono hL h1 h2 hab
  omega
theorem cut_bd {L s : List Int} {j : Int} (h : j ∈ cut L s) : 0 ≤ j ∧ j ≤ (L.length : Int) - 1 := by
  obtain ⟨k, _, h2, rfl⟩ := mem_cut.mp h
  have := ixo_lt h2
  omega
theorem cut_lot {L s : List Int} (hL : L.Pairwise (· < ·)) (hs : s.Pairwise (· < ·)) (h : cut L s ≠ []) : lotOk L.length (cut L s) := ⟨h, fun _ hx => cut_bd hx, cut_inc hL hs⟩
/-! ### the least and the greatest -/
theorem maxL_eq {a b : List Int} (ha : a ≠ []) (hb : b ≠ []) (h1 : ∀ x ∈ a, ∃ y ∈ b, x ≤ y) (h2 : ∀ y ∈ b, ∃ x ∈ a, y ≤ x) : maxL a = maxL b := by
  obtain ⟨a1, a2⟩ := maxL_spec ha
  obtain ⟨b1, b2⟩ := maxL_spec hb
  obtain ⟨y, hy, h3⟩ := h1 _ a1
  obtain ⟨x, hx, h4⟩ := h2 _ b1
  have := a2 x hx
  have := b2 y hy
  omega
theorem maxL_le {a : List Int} (ha : a ≠ []) {m : Int} : maxL a ≤ m ↔ ∀ x ∈ a, x ≤ m := by
  obtain ⟨a1, a2⟩ := maxL_spec ha
  exact ⟨fun h x hx => Int.le_trans (a2 x hx) h, fun h => h _ a1⟩
theorem le_maxL {a : List Int} {x : Int} (h : x ∈ a) : x ≤ maxL a := (maxL_spec (List.ne_nil_of_mem h)).2 x h
theorem iabs_nn (x : Int) : 0 ≤ iabs x := by unfold iabs; split <;> omega
theorem ssum_nil (c : List Int) : ssum c [] = 0 := rfl
def lwv (L : List Int) (ss : List (List Int)) : Int := minL ((rows L.length).map fun c => maxL (ss.map fun s => iabs (ssum c (cut L s))))
theorem minL_congr {α : Type} (l : List α) {f g : α → Int} (h : ∀ x ∈ l, f x = g x) : minL (l.map f) = minL (l.map g) := by rw [List.map_congr_left h]
theorem lwv_none {L : List Int} {ss : List (List Int)} (hne : ss ≠ []) (h : ∀ s ∈ ss, cut L s = []) : lwv L ss = 0 := by
  have e : ∀ c ∈ rows L.length, maxL (ss.map fun s => iabs (ssum c (cut L s))) = 0 := fun c _ => by
    obtain ⟨s, ss', rfl⟩ := List.exists_cons_of_ne_nil hne
    have : ((s :: ss').map fun s => iabs (ssum c (cut L s))) = (s :: ss').map fun _ => 0 := List.map_congr_left fun t ht => by rw [h t ht]; rfl
    rw [this]
    refine Int.le_antisymm ((maxL_le (by simp)).mpr fun x hx => ?_) (le_maxL (by simp))
    obtain ⟨_, _, rfl⟩ := List.mem_map.mp hx
    omega
  unfold lwv
  rw [minL_congr _ e]
  obtain ⟨m1, _⟩ := minL_spec (ns := (rows L.length).map fun _ => (0 : Int)) (by simpa using rows_ne _)
  obtain ⟨_, _, e⟩ := List.mem_map.mp m1
  exact e.symm
/-- the sets within a lot -/
def WSet (L : List Int) (ss zs : List (List Int)) : Prop := ∀ t, t ∈ zs ↔ t ≠ [] ∧ ∃ s ∈ ss, t = cut L s
theorem unev_within {L : List Int} {ss zs : List (List Int)} (h : WSet L ss zs) (hz : zs ≠ []) (c : List Int) : maxL (ss.map fun s => iabs (ssum c (cut L s))) = unev c zs := by
  obtain ⟨z, zs', e⟩ := List.exists_cons_of_ne_nil hz
  have hz1 : z ∈ zs := by rw [e]; exact List.mem_cons_self
  obtain ⟨_, s0, hs0, _⟩ := (h z).mp hz1
  refine maxL_eq (by simpa using List.ne_nil_of_mem hs0) (by simpa using hz) (fun x hx => ?_) (fun y hy => ?_)
  · obtain ⟨s, hs, rfl⟩ := List.mem_map.mp hx
    by_cases hc : cut L s = []
    · rw [hc, ssum_nil]
      exact ⟨_, List.mem_map.mpr ⟨z, hz1, rfl⟩, by have := iabs_nn (ssum c z); show (0 : Int) ≤ _; exact this⟩
    · exact ⟨_, List.mem_map.mpr ⟨cut L s, (h _).mpr ⟨hc, s, hs, rfl⟩, rfl⟩, Int.le_refl _⟩
  · obtain ⟨t, ht, rfl⟩ := List.mem_map.mp hy
    obtain ⟨_, s, hs, rfl⟩ := (h t).mp ht
    exact ⟨_, List.mem_map.mpr ⟨s, hs, rfl⟩, Int.le_refl _⟩
theorem lwv_some {L : List Int} {ss zs : List (List Int)} (h : WSet L ss zs) (hz : zs ≠ []) : lwv L ss = least L.length zs := minL_congr _ fun c _ => unev_within h hz c
theorem least_nn {n : Nat} {ss : List (List Int)} (h : ss ≠ []) : 0 ≤ least n ss := by
  obtain ⟨m1, _⟩ := minL_spec (ns := (rows n).map fun h => unev h ss) (by simpa using rows_ne _)
  obtain ⟨c, _, e⟩ := List.mem_map.mp m1
  obtain ⟨m2, _⟩ := maxL_spec (ns := ss.map fun s => iabs (ssum c s)) (by simpa using h)
  obtain ⟨s, _, e2⟩ := List.mem_map.mp m2
  have := iabs_nn (ssum c s)
  have e3 : least n ss = unev c ss := e.symm
  have e4 : unev c ss = iabs (ssum c s) := e2.symm
  omega
theorem lwv_nn {L : List Int} {ss : List (List Int)} (h : ss ≠ []) : 0 ≤ lwv L ss := by
  obtain ⟨m1, _⟩ := minL_spec (ns := (rows L.length).map fun c => maxL (ss.map fun s => iabs (ssum c (cut L s)))) (by simpa using rows_ne _)
  obtain ⟨c, _, e⟩ := List.mem_map.mp m1
  obtain ⟨m2, _⟩ := maxL_spec (ns := ss.map fun s => iabs (ssum c (cut L s))) (by simpa using h)
  obtain ⟨s, _, e2⟩ := List.mem_map.mp m2
  have := iabs_nn (ssum c (cut L s))
  have e3 : lwv L ss = maxL (ss.map fun s => iabs (ssum c (cut L s))) := e.symm
  omega
/-! ### lots of lots -/
def pull (L M : List Int) : List Int := M.map fun j => L.getD j.toNat 0
theorem getD_some {L : List Int} {j : Int} (h0 : 0 ≤ j) (h1 : j ≤ (L.length : Int) - 1) : L[j.toNat]? = some (L.getD j.toNat 0) := by
  have hj : j.toNat < L.length := by omega
  simp [List.getD, List.getElem?_eq_getElem hj]
theorem pull_mem {L M : List Int} (hL : L.Nodup) (hM : lotOk L.length M) {k : Int} : k ∈ pull L M ↔ k ∈ L ∧ (ixo L k : Int) ∈ M := by
  unfold pull
  rw [List.mem_map]
  constructor
  · rintro ⟨j, hj, rfl⟩
    obtain ⟨h0, h1⟩ := hM.2.1 j hj
    have e := getD_some h0 h1
    rw [ixo_of hL e]
    exact ⟨List.mem_of_getElem? e, by rw [show ((j.toNat : Nat) : Int) = j by omega]; exact hj⟩
  · rintro ⟨hk, hm⟩
    refine ⟨_, hm, ?_⟩
    have e := ixo_get hk
    simp only [Int.toNat_natCast]
    simp [List.getD, e]
theorem pull_lot {n : Int} {L M : List Int} (hL : lotOk n L) (hM : lotOk L.length M) : lotOk n (pull L M) := by
  refine ⟨by unfold pull; simpa using hM.1, fun x hx => ?_, ?_⟩
  · exact hL.2.1 x ((pull_mem (inc_nodup hL.2.2) hM).mp hx).1
  · unfold pull
    rw [List.pairwise_map]
    refine hM.2.2.imp_of_mem fun {a b} ha hb hab => ?_
    obtain ⟨a0, a1⟩ := hM.2.1 a ha
    obtain ⟨b0, b1⟩ := hM.2.1 b hb
    obtain ⟨p1, e1⟩ := List.getElem?_eq_some_iff.mp (getD_some (L := L) a0 a1)
    obtain ⟨p2, e2⟩ := List.getElem?_eq_some_iff.mp (getD_some (L := L) b0 b1)
    rw [← e1, ← e2]
    exact List.pairwise_iff_getElem.mp hL.2.2 _ _ p1 p2 (by omega)
theorem pull_ix {n : Int} {L M : List Int} (hL : lotOk n L) (hM : lotOk L.length M) {k : Int} (hk : k ∈ L) (hm : (ixo L k : Int) ∈ M) : ixo (pull L M) k = ixo M (ixo L k) := by
  refine ixo_of (inc_nodup (pull_lot hL hM).2.2) ?_
  unfold pull
  rw [List.getElem?_map, ixo_get hm]
  have e := ixo_get hk
  simp [List.getD, e]
theorem cut_cut {n : Int} {L M s : List Int} (hL : lotOk n L) (hM : lotOk L.length M) : cut M (cut L s) = cut (pull L M) s := by
  unfold cut
  rw [List.filter_map, List.map_map, List.filter_filter]
  have e : (s.filter fun k => ((fun k => decide (k ∈ M)) ∘ fun k => (ixo L k : Int)) k && decide (k ∈ L)) = s.filter fun k => decide (k ∈ pull L M) := by
    refine List.filter_congr fun k _ => ?_
    have := pull_mem (k := k) (inc_nodup hL.2.2) hM
    by_cases h1 : k ∈ L
    · by_cases h2 : (ixo L k : Int) ∈ M
      · simp [h1, h2, this]
      · simp [h1, h2, this]
    · simp [h1, this]
  rw [e]
  refine List.map_congr_left fun k hk => ?_
  have hk : k ∈ pull L M := by simpa using (List.mem_filter.mp hk).2
  obtain ⟨h1, h2⟩ := (pull_mem (inc_nodup hL.2.2) hM).mp hk
  show (ixo M (ixo L k) : Int) = _
  rw [pull_ix hL hM h1 h2]
theorem lwv_pull {n : Int} {L M : List Int} {ss zs : List (List Int)} (hL : lotOk n L) (hM : lotOk L.length M) (h : WSet L ss zs) (hz : zs ≠ []) : lwv M zs = lwv (pull L M) ss := by
  unfold lwv
  have hl : (pull L M).length = M.length := by unfold pull; simp
  rw [hl]
  refine minL_congr _ fun c _ => ?_
  obtain ⟨z, zs', e⟩ := List.exists_cons_of_ne_nil hz
  have hz1 : z ∈ zs := by rw [e]; exact List.mem_cons_self
  obtain ⟨_, s0, hs0, _⟩ := (h z).mp hz1
  refine maxL_eq (by simpa using hz) (by simpa using List.ne_nil_of_mem hs0) (fun x hx => ?_) (fun y hy => ?_)
  · obtain ⟨t, ht, rfl⟩ := List.mem_map.mp hx
    obtain ⟨_, s, hs, rfl⟩ := (h t).mp ht
    exact ⟨_, List.mem_map.mpr ⟨s, hs, rfl⟩, by rw [cut_cut hL hM]; exact Int.le_refl _⟩
  · obtain ⟨s, hs, rfl⟩ := List.mem_map.mp hy
    by_cases hc : cut L s = []
    · rw [← cut_cut hL hM, hc]
      exact ⟨_, List.mem_map.mpr ⟨z, hz1, rfl⟩, by have := iabs_nn (ssum c (cut M z)); show (0 : Int) ≤ _; exact this⟩
    · exact ⟨_, List.mem_map.mpr ⟨cut L s, (h _).mpr ⟨hc, s, hs, rfl⟩, rfl⟩, by rw [cut_cut hL hM]; exact Int.le_refl _⟩
/-! ### all lots -/
def lastOk (r : List Int) (x : Int) : Bool := match r.getLast? with
  | none => true
  | some y => decide (y < x)
def nums (m : Nat) : Nat → List (List Int)
  | 0 => [[]]
  | t + 1 => (nums m t).flatMap fun r => (((List.range m).map fun i : Nat => (i : Int)).filter (lastOk r)).map fun x => r ++ [x]
theorem mem_nums {m : Nat} : ∀ {t : Nat} {r : List Int}, r ∈ nums m t ↔ r.length = t ∧ r.Pairwise (· < ·) ∧ ∀ x ∈ r, 0 ≤ x ∧ x < m
  | 0, r => by
    constructor
    · intro h
      have : r = [] := by simpa [nums] using h
      subst this
      simp
    · rintro ⟨h, _⟩
      have := List.length_eq_zero_iff.mp h
      subst this
      simp [nums]
  | t + 1, r => by
    have e : nums m (t + 1) = (nums m t).flatMap fun r => (((List.range m).map fun i : Nat => (i : Int)).filter (lastOk r)).map fun x => r ++ [x] := rfl
    rw [e, List.mem_flatMap]
    constructor
    · rintro ⟨q, hq, hr⟩
      obtain ⟨x, hx, rfl⟩ := List.mem_map.mp hr
      obtain ⟨h1, h2⟩ := List.mem_filter.mp hx
      obtain ⟨i, hi, rfl⟩ := List.mem_map.mp h1
      have hi := List.mem_range.mp hi
      obtain ⟨q1, q2, q3⟩ := mem_nums.mp hq
      refine ⟨by simp [q1], ?_, fun y hy => ?_⟩
      · rw [List.pairwise_append]
        refine ⟨q2, by simp, fun a ha b hb => ?_⟩
        simp at hb
        subst hb
        have hne : q ≠ [] := List.ne_nil_of_mem ha
        unfold lastOk at h2
        rw [List.getLast?_eq_some_getLast hne] at h2
        have h2 := of_decide_eq_true h2
        rcases List.mem_iff_getElem.mp ha with ⟨j, hj, rfl⟩
        rw [List.getLast_eq_getElem] at h2
        rcases Nat.lt_or_ge j (q.length - 1) with hlt | hge
        · have := List.pairwise_iff_getElem.mp q2 j (q.length - 1) hj (by omega) hlt
          omega
        · have : j = q.length - 1 := by omega
          subst this
          exact h2
      · rcases List.mem_append.mp hy with hy | hy
        · exact q3 y hy
        · simp at hy
          subst hy
          omega
    · rintro ⟨h1, h2, h3⟩
      have hne : r ≠ [] := by rintro rfl; cases h1
      have e2 := List.dropLast_concat_getLast hne
      refine ⟨r.dropLast, mem_nums.mpr ⟨by simp [h1], h2.sublist (List.dropLast_sublist _), fun x hx => h3 x (List.dropLast_subset _ hx)⟩, ?_⟩
      refine List.mem_map.mpr ⟨r.getLast hne, List.mem_filter.mpr ⟨?_, ?_⟩, e2⟩
      · have := h3 _ (List.getLast_mem hne)
        exact List.mem_map.mpr ⟨(r.getLast hne).toNat, List.mem_range.mpr (by omega), by omega⟩
      · unfold lastOk
        cases hd : r.dropLast.getLast? with
        | none => rfl
        | some y =>
          refine decide_eq_true ?_
          have hy := List.mem_of_getLast? hd
          rw [← e2, List.pairwise_append] at h2
          exact h2.2.2 y hy _ (by simp)
def lotsP (n : Nat) : List (List Int) := (List.range n).flatMap fun i => nums n (i + 1)
theorem mem_lotsP {n : Nat} {L : List Int} : L ∈ lotsP n ↔ lotOk n L := by
  unfold lotsP
  rw [List.mem_flatMap]
  constructor
  · rintro ⟨i, hi, h⟩
    obtain ⟨h1, h2, h3⟩ := mem_nums.mp h
    refine ⟨by rintro rfl; simp at h1, fun x hx => ?_, h2⟩
    have := h3 x hx
    omega
  · rintro ⟨h1, h2, h3⟩
    have hl : L.length ≤ n := inc_len L 0 n h3 fun x hx => by
      have := h2 x hx
      omega
    have : L.length ≠ 0 := fun z => h1 (List.length_eq_zero_iff.mp z)
    refine ⟨L.length - 1, List.mem_range.mpr (by omega), mem_nums.mpr ⟨by omega, h3, fun x hx => ?_⟩⟩
    have := h2 x hx
    omega
theorem lotsP_ne {n : Nat} (h : 1 ≤ n) : lotsP n ≠ [] := by
  refine List.ne_nil_of_mem (a := [0]) (mem_lotsP.mpr ⟨by simp, fun x hx => ?_, by simp⟩)
  simp at hx
  omega
/-- the greatest least within a lot -/
def worstV (n : Nat) (ss : List (List Int)) : Int := maxL ((lotsP n).map fun L => lwv L ss)
def worstL (n : Nat) (ss : List (List Int)) : List Int := (lotsP n).getD (ixo ((lotsP n).map fun L => lwv L ss) (worstV n ss)) []
/-- the scan of the program -/
def scan (f : List Int → Int) (l : List (List Int)) : Int × Option (List Int) := l.foldl (fun a L => if a.1 < f L then (f L, some L) else a) (-1, none)
theorem ixo_snoc {vs : List Int} {v k : Int} (h : k ∈ vs) : ixo (vs ++ [v]) k = ixo vs k := by
  induction vs with
  | nil => cases h
  | cons x xs ih =>
    show ixo (x :: (xs ++ [v])) k = _
    unfold ixo
    split
    · rfl
    · rename_i e
      rw [ih ((List.mem_cons.mp h).resolve_left fun z => e z.symm)]
theorem ixo_new {vs : List Int} {v : Int} (h : v ∉ vs) : ixo (vs ++ [v]) v = vs.length := by
  induction vs with
  | nil => show (if v = v then 0 else _) = 0; rw [if_pos rfl]
  | cons x xs ih =>
    show (if x = v then 0 else ixo (xs ++ [v]) v + 1) = _
    rw [if_neg (fun z : x = v => h (by rw [← z]; exact List.mem_cons_self)), ih fun z => h (List.mem_cons_of_mem _ z)]
    rfl
theorem maxL_snoc {vs : List Int} (h : vs ≠ []) (v : Int) : maxL (vs ++ [v]) = max (maxL vs) v := by
  obtain ⟨m1, m2⟩ := maxL_spec h
  obtain ⟨n1, n2⟩ := maxL_spec (ns := vs ++ [v]) (by simp)
  have a1 := n2 v (by simp)
  have a2 := n2 _ (List.mem_append_left _ m1)
  rcases List.mem_append.mp n1 with z | z
  · have := m2 _ z
    omega
  · simp at z
    omega
theorem scan_nil (f : List Int → Int) : scan f [] = (-1, none) := rfl
theorem scan_snoc (f : List Int → Int) (l : List (List Int)) (L : List Int) : scan f (l ++ [L]) = if (scan f l).1 < f L then (f L, some L) else scan f l := by
  unfold scan
  rw [List.foldl_append]
  rfl
theorem scan_spec (f : List Int → Int) (hf : ∀ L, 0 ≤ f L) (l : List (List Int)) : l ≠ [] → scan f l = (maxL (l.map f), some (l.getD (ixo (l.map f) (maxL (l.map f))) [])) := by
  induction hn : l.length generalizing l with
  | zero => intro h; exact absurd (List.length_eq_zero_iff.mp hn) h
  | succ n ih =>
    intro hne
    have e2 := List.dropLast_concat_getLast hne
    generalize hP : l.dropLast = P at e2
    generalize l.getLast hne = L at e2
    subst e2
    have hPl : P.length = n := by simpa using hn
    rw [scan_snoc, List.map_append, List.map_cons, List.map_nil]
    cases P with
    | nil =>
      rw [scan_nil, if_pos (by have := hf L; show (-1 : Int) < f L; omega)]
      simp [maxL, ixo]
    | cons p ps =>
      have hne2 : (p :: ps) ≠ [] := by simp
      rw [ih _ hPl hne2]
      generalize hv : (p :: ps).map f = vs
      have hvne : vs ≠ [] := by rw [← hv]; simp
      obtain ⟨m1, m2⟩ := maxL_spec hvne
      have hvl : vs.length = (p :: ps).length := by rw [← hv]; simp
      by_cases hlt : maxL vs < f L
      · rw [if_pos hlt, maxL_snoc hvne, show max (maxL vs) (f L) = f L by omega, ixo_new (fun z => by have := m2 _ z; omega)]
        have : (p :: ps ++ [L])[vs.length]? = some L := by rw [hvl]; simp
        simp only [List.getD, this, Option.getD_some]
      · rw [if_neg hlt, maxL_snoc hvne, show max (maxL vs) (f L) = maxL vs by omega, ixo_snoc m1]
        have hi := ixo_lt m1
        have : (p :: ps ++ [L])[ixo vs (maxL vs)]? = (p :: ps)[ixo vs (maxL vs)]? := List.getElem?_append_left (by omega)
        simp only [List.getD, this]
theorem lwv_range {n : Nat} {ss : List (List Int)} (h : ∀ s ∈ ss, lotOk n s) : lwv ((List.range n).map fun i : Nat => (i : Int)) ss = least n ss := by
  unfold lwv least
  rw [List.length_map, List.length_range]
  refine minL_congr _ fun c _ => ?_
  unfold unev
  congr 1
  refine List.map_congr_left fun s hs => ?_
  congr 2
  unfold cut
  have nd : ((List.range n).map fun i : Nat => (i : Int)).Nodup := by
    refine inc_nodup ?_
    rw [List.pairwise_map]
    exact List.pairwise_lt_range.imp fun h => by omega
  have hin : ∀ k ∈ s, ((List.range n).map fun i : Nat => (i : Int))[k.toNat]? = some k := fun k hk => by
    have := (h s hs).2.1 k hk
    rw [List.getElem?_map, List.getElem?_range (by omega)]
    show some ((k.toNat : Nat) : Int) = _
    congr 1
    omega
  rw [List.filter_eq_self.mpr fun k hk => by simpa using List.mem_map.mp (List.mem_of_getElem? (hin k hk))]
  have : (s.map fun k => (ixo ((List.range n).map fun i : Nat => (i : Int)) k : Int)) = s.map id := List.map_congr_left fun k hk => by
    rw [ixo_of nd (hin k hk)]
    have := (h s hs).2.1 k hk
    show ((k.toNat : Nat) : Int) = k
    omega
  rw [this, List.map_id]
end LC

end
section
set_option maxHeartbeats 4000000
/-! Q2: the lots of the program. -/
namespace LC
open PySem PySem.Spec PyProof.Rows L2
section
variable {cf : Str → List D → M D} {ρ : Env} {S S1 : Store}
/-- a walk of statements -/
theorem wpF {α : Type} {s : LI} {tg : LT} {b : LB} (l : List α) (f : α → D) (he : evI cf s ρ S = .ok (.fix (l.map f)) S1) (I : Nat → Env → Store → Prop) (Q : Fl → Store → Prop) (h0 : I 0 ρ S1)
    (hs : ∀ i a ρ S', l[i]? = some a → I i ρ S' → ∃ ρ1, asgT tg (f a) ρ = some ρ1 ∧ Wp (exB cf b ρ1 S') (fun fl S'' => match fl with
      | .nx ρ' => I (i + 1) ρ' S''
      | .rt d => Q (.rt d) S''))
    (hq : ∀ ρ S, I l.length ρ S → Q (.nx ρ) S) : Wp (exS cf (.for_ s tg b) ρ S) Q := by
  rw [s_for]
  refine wp_for he I Q h0 (fun i d ρ S' hx hI => ?_) (fun ρ S hI => hq ρ S (by rw [List.length_map] at hI; exact hI))
  rw [List.getElem?_map] at hx
  cases q : l[i]? with
  | none => rw [q] at hx; cases hx
  | some a =>
    rw [q] at hx
    cases hx
    exact hs i a ρ S' q hI
/-- the same where no turn returns -/
theorem wpFn {α : Type} {s : LI} {tg : LT} {b : LB} (l : List α) (f : α → D) (he : evI cf s ρ S = .ok (.fix (l.map f)) S1) (I : Nat → Env → Store → Prop) (h0 : I 0 ρ S1)
    (hs : ∀ i a ρ S', l[i]? = some a → I i ρ S' → ∃ ρ1, asgT tg (f a) ρ = some ρ1 ∧ Wp (exB cf b ρ1 S') (fun fl S'' => ∃ ρ', fl = .nx ρ' ∧ I (i + 1) ρ' S'')) :
    Wp (exS cf (.for_ s tg b) ρ S) (fun fl S' => ∃ ρ', fl = .nx ρ' ∧ I l.length ρ' S') := by
  refine wpF l f he I _ h0 (fun i a ρ S' hx hI => ?_) (fun ρ S hI => ⟨ρ, rfl, hI⟩)
  obtain ⟨ρ1, e1, h1⟩ := hs i a ρ S' hx hI
  refine ⟨ρ1, e1, h1.mono fun fl S'' h2 => ?_⟩
  obtain ⟨ρ', rfl, h3⟩ := h2
  exact h3
end
theorem ceq_lT (a b : List (List Int)) : cmpB .Eq (.lst (a.map tI)) (.lst (b.map tI)) = some (.bl (decide (a = b))) := by
  have e : (D.lst (a.map tI)).eqb (.lst (b.map tI)) = decide (a = b) := by
    have := eqb_tT a b
    exact this
  rw [cmp_eq (a := .lst (a.map tI)) (b := .lst (b.map tI)) (sh_tIs a 58) (sh_tIs b 58), e]
theorem cne_lT (a b : List (List Int)) : cmpB .NotEq (.lst (a.map tI)) (.lst (b.map tI)) = some (.bl (!decide (a = b))) := by
  have e : (D.lst (a.map tI)).eqb (.lst (b.map tI)) = decide (a = b) := by
    have := eqb_tT a b
    exact this
  rw [cmp_ne (a := .lst (a.map tI)) (b := .lst (b.map tI)) (sh_tIs a 58) (sh_tIs b 58), e]
theorem cne_lT0 (a : List (List Int)) : cmpB .NotEq (.lst (a.map tI)) (.lst []) = some (.bl (!decide (a = []))) := cne_lT a []
theorem cne_t0 (a : List Int) : cmpB .NotEq (tI a) (.tup []) = some (.bl (!decide (a = []))) := cne_tI a []
theorem sorted_v {S : Store} {x : D} {xs : List D} (hv : vw S x = .lst xs) (h : sortOk xs = true) : fB .sorted S [x] = some (.lst (sortD xs)) := by
  show (match vw S x with
    | .tup xs => if sortOk xs then some (D.lst (sortD xs)) else none
    | .lst xs => if sortOk xs then some (D.lst (sortD xs)) else none
    | _ => none) = _
  rw [hv]
  exact if_pos h
theorem get_end {S : Store} {a : Cell} {E : Store} : (S ++ a :: E)[S.length]? = some a := by
  rw [List.getElem?_append_right (Nat.le_refl _), Nat.sub_self]
  rfl
theorem get_end1 {S : Store} {a b : Cell} {E : Store} : (S ++ a :: b :: E)[S.length + 1]? = some b := by
  rw [List.getElem?_append_right (by omega), show S.length + 1 - S.length = 1 by omega]
  rfl
theorem vw_end {S : Store} {xs : List D} {E : Store} : vw (S ++ Cell.lst xs :: E) (.cell S.length) = .lst xs := by
  show vwc _ (S ++ Cell.lst xs :: E)[S.length]? = _
  rw [get_end]; rfl
theorem vw_end1 {S : Store} {a : Cell} {xs : List D} {E : Store} : vw (S ++ a :: Cell.lst xs :: E) (.cell (S.length + 1)) = .lst xs := by
  show vwc _ (S ++ a :: Cell.lst xs :: E)[S.length + 1]? = _
  rw [get_end1]; rfl
theorem set_end1 {S : Store} {a b c : Cell} : (S ++ [a, b]).set (S.length + 1) c = S ++ [a, c] := by
  rw [List.set_append_right _ _ (by omega), show S.length + 1 - S.length = 1 by omega]
  rfl
/-! ### dicts -/
theorem putD_new {kvs : List (Int × D)} {k : Int} {d : D} (h : ∀ kv ∈ kvs, kv.1 ≠ k) : putD kvs k d = kvs ++ [(k, d)] := by
  unfold putD
  rw [if_neg]
  intro hh
  obtain ⟨kv, h1, h2⟩ := List.any_eq_true.mp hh
  exact h kv h1 (of_decide_eq_true h2)
theorem mergeD_new : ∀ (more kvs : List (Int × D)), ((kvs ++ more).map (·.1)).Nodup → mergeD kvs more = kvs ++ more
  | [], kvs, _ => by rw [List.append_nil]; rfl
  | (k, d) :: r, kvs, h => by
    show mergeD (putD kvs k d) r = _
    have h0 : ∀ kv ∈ kvs, kv.1 ≠ k := fun kv hkv e => by
      rw [List.map_append, List.nodup_append] at h
      exact h.2.2 kv.1 (List.mem_map.mpr ⟨kv, hkv, rfl⟩) k (by simp) e
    rw [putD_new h0, mergeD_new r _ (by rw [List.append_assoc]; exact h), List.append_assoc]
    rfl
theorem lookup_zip {ds : List D} : ∀ {L : List Int} {ys : List D}, L.length = ys.length → ∀ k, (L.zip ys).lookup k = if k ∈ L then ys[ixo L k]? else none
  | [], [], _, k => by simp
  | [], _ :: _, h, _ => by cases h
  | _ :: _, [], h, _ => by cases h
  | x :: xs, y :: ys, h, k => by
    rw [List.zip_cons_cons, List.lookup_cons]
    by_cases e : k = x
    · subst e
      simp [ixo]
    · have e2 : ¬ x = k := fun z => e z.symm
      have e3 : (k == x) = false := by simpa using e
      rw [e3]
      simp only [List.mem_cons, e, false_or, ixo, if_neg e2, List.getElem?_cons_succ]
      exact lookup_zip (ds := ds) (by simpa using h) k
theorem zip_keys {L : List Int} {ys : List D} (h : L.length = ys.length) : (L.zip ys).map (·.1) = L := by
  rw [show ((fun kv : Int × D => kv.1)) = Prod.fst from rfl, List.map_fst_zip (by omega)]
theorem dget_c {S : Store} {n : Nat} {kvs : List (Int × D)} (h : S[n]? = some (.dI kvs)) (k : Int) : dgetD S (.cell n) (.int k) = kvs.lookup k := by
  show (match S[n]? with
    | some (.dI kvs) => kvs.lookup k
    | _ => none) = _
  rw [h]
theorem din_c {S : Store} {n : Nat} {kvs : List (Int × D)} (h : S[n]? = some (.dI kvs)) (k : Int) : dinD S (.cell n) (.int k) = some (kvs.lookup k).isSome := by
  show (match S[n]? with
    | some (.dI kvs) => some (kvs.lookup k).isSome
    | _ => none) = _
  rw [h]
theorem app_c {S : Store} {n : Nat} {ys : List D} {d : D} (h : S[n]? = some (.lst ys)) (hl : ys.length < line) : appAt (.cell n) d S = .ok () (S.set n (.lst (ys ++ [d]))) := by
  show (match S[n]? with
    | some (.lst ys) => if ys.length < line then R.ok () (S.set n (.lst (ys ++ [d]))) else .bad
    | _ => .bad) = _
  rw [h]
  exact if_pos hl
theorem lstAt_c {S : Store} {n : Nat} {ys : List D} (h : S[n]? = some (.lst ys)) : lstAt (.cell n) S = .ok () S := by
  show (match S[n]? with
    | some (.lst _) => R.ok () S
    | _ => .bad) = _
  rw [h]
def ixs0 (L : List Int) : List D := (List.range L.length).map fun i : Nat => D.int (i : Int)
theorem pairs_enum (L : List Int) : pairsOf (L.mapIdx fun i x => D.tup [.int x, .int (i : Nat)]) = some (L.zip (ixs0 L)) := by
  have e : L.mapIdx (fun i x => D.tup [.int x, .int (i : Nat)]) = (L.zip (ixs0 L)).map fun kv => D.tup [.int kv.1, kv.2] := by
    apply List.ext_getElem
    · simp [ixs0]
    · intro i h1 h2
      simp [ixs0]
  rw [e]
  generalize L.zip (ixs0 L) = l
  induction l with
  | nil => rfl
  | cons kv r ih =>
    show (pairsOf (r.map fun kv => D.tup [.int kv.1, kv.2])).map ((kv.1, kv.2) :: ·) = _
    rw [ih]
    rfl
theorem ixs0_get {L : List Int} {k : Int} (h : k ∈ L) : (ixs0 L)[ixo L k]? = some (.int (ixo L k)) := by
  unfold ixs0
  rw [List.getElem?_map, List.getElem?_range (ixo_lt h)]
  rfl
/-! ### the family within a lot -/
structure HasL (fs : Str → Option Fn) : Prop extends HasC fs where
  chl : fs "check_lot" = some ⟨2, 2, b_check_lot⟩
  fwi : fs "found_within" = some ⟨2, 8, b_found_within⟩
section
variable {fs : Str → Option Fn} {k : Nat} {S : Store} {n : Int} {ss : List (List Int)} {L : List Int}
theorem r_check_lot (h : HasF fs) (hl : fs "check_lot" = some ⟨2, 2, b_check_lot⟩) (hn : n ≤ 7) (hL : lotOk n L) : runF fs (k + 3) "check_lot" [fam n ss, tI L] S = .ok .non S := by
  rw [rf_eq hl]
  simp only [b_check_lot, e_var, e_cst, e_ty, e_gfn, e_bin, e_cmp, e_chn, e_neg, e_nt, e_one, e_and, e_or, e_ite, e_tup, e_lst, e_idx, e_slc, o_none, o_some, e_call, e_blt, e_isi, a_nil, a_cons, i_of, i_rng, c_none, c_some, s_set, s_setLc, s_asg, s_par, s_stI, s_ex, s_ret, s_if, s_rai, s_pass, b_nil, b_cons, M.opt_some, R.bind_ok, R.bind_exc, getE_0, getE_s, List.map_cons, List.map_nil, List.cons_append, List.nil_append, List.length_cons, List.length_nil, List.replicate_succ, List.replicate_zero, Nat.reduceSub, Nat.reduceAdd, List.set_cons_zero, List.set_cons_succ, Option.map_some, BT.nm, wipeE, seqK_n, seqK_r, andK_t, andK_f, orK_f, orK_t, iteK_t, iteK_f, asgK_nm, asgK_t2, asgK_t3, endF_n, endF_r, slI_i, toBl_b, vw_i, vw_b, vw_t, vw_tI, vw_tT, vw_l, vw_s, vw_n, vw_ty, src_t, src_tI, src_tT, src_l, bin_add, bin_sub, neg_i, not_b, R.bind_assoc, e_isx, e_isv, e_lm, e_rngT1, e_rngT2, e_dget, e_din, e_dict, e_dictZ, e_callC, i_enm, s_app, seeL_l, lmK_l, enmK_t, e_lstC, e_addC, fam, idx_t, atI_0]
  rw [r_is_lot h.bet h.lot hL hn]
  simp only [e_var, e_cst, e_ty, e_gfn, e_bin, e_cmp, e_chn, e_neg, e_nt, e_one, e_and, e_or, e_ite, e_tup, e_lst, e_idx, e_slc, o_none, o_some, e_call, e_blt, e_isi, a_nil, a_cons, i_of, i_rng, c_none, c_some, s_set, s_setLc, s_asg, s_par, s_stI, s_ex, s_ret, s_if, s_rai, s_pass, b_nil, b_cons, M.opt_some, R.bind_ok, R.bind_exc, getE_0, getE_s, List.map_cons, List.map_nil, List.cons_append, List.nil_append, List.length_cons, List.length_nil, List.replicate_succ, List.replicate_zero, Nat.reduceSub, Nat.reduceAdd, List.set_cons_zero, List.set_cons_succ, Option.map_some, BT.nm, wipeE, seqK_n, seqK_r, andK_t, andK_f, orK_f, orK_t, iteK_t, iteK_f, asgK_nm, asgK_t2, asgK_t3, endF_n, endF_r, slI_i, toBl_b, vw_i, vw_b, vw_t, vw_tI, vw_tT, vw_l, vw_s, vw_n, vw_ty, src_t, src_tI, src_tT, src_l, bin_add, bin_sub, neg_i, not_b, R.bind_assoc, e_isx, e_isv, e_lm, e_rngT1, e_rngT2, e_dget, e_din, e_dict, e_dictZ, e_callC, i_enm, s_app, seeL_l, lmK_l, enmK_t, e_lstC, e_addC, Bool.not_true]
/-- what found_within gives: nothing, or a family -/
def Within (L : List Int) (ss : List (List Int)) (d : D) : Prop := (d = .non ∧ ∀ s ∈ ss, cut L s = []) ∨ ∃ zs, d = fam L.length zs ∧ FamOk L.length zs ∧ WSet L ss zs
theorem r_found_within (h : fs "found_within" = some ⟨2, 8, b_found_within⟩) (F : FamOk n ss) (hL : lotOk n L) : ∃ d, Within L ss d ∧ Ok (runF fs (k + 1) "found_within" [fam n ss, tI L] S) d S := by
  have hinc := hL.2.2
  have nd := inc_nodup hinc
  have hlen := lot_len hL F.hi
  have hln : L.length ≤ n := by
    have h0 := F.lo
    have := inc_len L 0 n.toNat hinc fun x hx => by
      have := hL.2.1 x hx
      omega
    omega
  have hz : L.length = (ixs0 L).length := by simp [ixs0]
  have key : Wp (exS (runF fs k) (.for_ (.of (.idx (.var 0) (.cst (.int 1)))) (.nm 6) b_found_within_1) [some (fam n ss), some (tI L), some (.cell S.length), some (.cell (S.length + 1)), none, none, none, none] (S ++ [.dI (L.zip (ixs0 L)), .lst []]))
      (fun fl S' => ∃ ρ', fl = .nx ρ' ∧ ∃ (found : List (List Int)) (t1 t2 : Option D), ρ' = [some (fam n ss), some (tI L), some (.cell S.length), some (.cell (S.length + 1)), none, none, t1, t2] ∧ S' = S ++ [.dI (L.zip (ixs0 L)), .lst (found.map tI)] ∧ found.Nodup ∧ found.length ≤ ss.length ∧ ∀ t, t ∈ found ↔ t ≠ [] ∧ ∃ s ∈ ss.take ss.length, t = cut L s) := by
    refine wpFn (S1 := S ++ [.dI (L.zip (ixs0 L)), .lst []]) ss tI ?_ (fun i ρ' S' => ∃ (found : List (List Int)) (t1 t2 : Option D), ρ' = [some (fam n ss), some (tI L), some (.cell S.length), some (.cell (S.length + 1)), none, none, t1, t2] ∧ S' = S ++ [.dI (L.zip (ixs0 L)), .lst (found.map tI)] ∧ found.Nodup ∧ found.length ≤ i ∧ ∀ t, t ∈ found ↔ t ≠ [] ∧ ∃ s ∈ ss.take i, t = cut L s) ⟨[], none, none, rfl, rfl, by simp, by simp, by simp⟩ (fun i s ρ' S' hx hI => ?_)
    · simp only [e_var, e_cst, e_ty, e_gfn, e_bin, e_cmp, e_chn, e_neg, e_nt, e_one, e_and, e_or, e_ite, e_tup, e_lst, e_idx, e_slc, o_none, o_some, e_call, e_blt, e_isi, a_nil, a_cons, i_of, i_rng, c_none, c_some, s_set, s_setLc, s_asg, s_par, s_stI, s_ex, s_ret, s_if, s_rai, s_pass, b_nil, b_cons, M.opt_some, R.bind_ok, R.bind_exc, getE_0, getE_s, List.map_cons, List.map_nil, List.cons_append, List.nil_append, List.length_cons, List.length_nil, List.replicate_succ, List.replicate_zero, Nat.reduceSub, Nat.reduceAdd, List.set_cons_zero, List.set_cons_succ, Option.map_some, BT.nm, wipeE, seqK_n, seqK_r, andK_t, andK_f, orK_f, orK_t, iteK_t, iteK_f, asgK_nm, asgK_t2, asgK_t3, endF_n, endF_r, slI_i, toBl_b, vw_i, vw_b, vw_t, vw_tI, vw_tT, vw_l, vw_s, vw_n, vw_ty, src_t, src_tI, src_tT, src_l, bin_add, bin_sub, neg_i, not_b, R.bind_assoc, e_isx, e_isv, e_lm, e_rngT1, e_rngT2, e_dget, e_din, e_dict, e_dictZ, e_callC, i_enm, s_app, seeL_l, lmK_l, enmK_t, e_lstC, e_addC, fam, idx_t, atI_1]
    obtain ⟨found, t1, t2, rfl, rfl, f1, f2, f3⟩ := hI
    refine ⟨_, rfl, ?_⟩
    have hsm := List.mem_of_getElem? hx
    have hi := (List.getElem?_eq_some_iff.mp hx).1
    have h8 := F.le
    have et : ss.take (i + 1) = ss.take i ++ [s] := by rw [List.take_add_one, hx]; rfl
    simp only [b_found_within_1, e_var, e_cst, e_ty, e_gfn, e_bin, e_cmp, e_chn, e_neg, e_nt, e_one, e_and, e_or, e_ite, e_tup, e_lst, e_idx, e_slc, o_none, o_some, e_call, e_blt, e_isi, a_nil, a_cons, i_of, i_rng, c_none, c_some, s_set, s_setLc, s_asg, s_par, s_stI, s_ex, s_ret, s_if, s_rai, s_pass, b_nil, b_cons, M.opt_some, R.bind_ok, R.bind_exc, getE_0, getE_s, List.map_cons, List.map_nil, List.cons_append, List.nil_append, List.length_cons, List.length_nil, List.replicate_succ, List.replicate_zero, Nat.reduceSub, Nat.reduceAdd, List.set_cons_zero, List.set_cons_succ, Option.map_some, BT.nm, wipeE, seqK_n, seqK_r, andK_t, andK_f, orK_f, orK_t, iteK_t, iteK_f, asgK_nm, asgK_t2, asgK_t3, endF_n, endF_r, slI_i, toBl_b, vw_i, vw_b, vw_t, vw_tI, vw_tT, vw_l, vw_s, vw_n, vw_ty, src_t, src_tI, src_tT, src_l, bin_add, bin_sub, neg_i, not_b, R.bind_assoc, e_isx, e_isv, e_lm, e_rngT1, e_rngT2, e_dget, e_din, e_dict, e_dictZ, e_callC, i_enm, s_app, seeL_l, lmK_l, enmK_t, e_lstC, e_addC]
    rw [lcE_eq s D.int (fun k => decide (k ∈ L)) (fun k => D.int (ixo L k)) (by simp only [e_var, e_cst, e_ty, e_gfn, e_bin, e_cmp, e_chn, e_neg, e_nt, e_one, e_and, e_or, e_ite, e_tup, e_lst, e_idx, e_slc, o_none, o_some, e_call, e_blt, e_isi, a_nil, a_cons, i_of, i_rng, c_none, c_some, s_set, s_setLc, s_asg, s_par, s_stI, s_ex, s_ret, s_if, s_rai, s_pass, b_nil, b_cons, M.opt_some, R.bind_ok, R.bind_exc, getE_0, getE_s, List.map_cons, List.map_nil, List.cons_append, List.nil_append, List.length_cons, List.length_nil, List.replicate_succ, List.replicate_zero, Nat.reduceSub, Nat.reduceAdd, List.set_cons_zero, List.set_cons_succ, Option.map_some, BT.nm, wipeE, seqK_n, seqK_r, andK_t, andK_f, orK_f, orK_t, iteK_t, iteK_f, asgK_nm, asgK_t2, asgK_t3, endF_n, endF_r, slI_i, toBl_b, vw_i, vw_b, vw_t, vw_tI, vw_tT, vw_l, vw_s, vw_n, vw_ty, src_t, src_tI, src_tT, src_l, bin_add, bin_sub, neg_i, not_b, R.bind_assoc, e_isx, e_isv, e_lm, e_rngT1, e_rngT2, e_dget, e_din, e_dict, e_dictZ, e_callC, i_enm, s_app, seeL_l, lmK_l, enmK_t, e_lstC, e_addC]) (fun x hx => ⟨_, rfl, by
      simp only [e_var, e_cst, e_ty, e_gfn, e_bin, e_cmp, e_chn, e_neg, e_nt, e_one, e_and, e_or, e_ite, e_tup, e_lst, e_idx, e_slc, o_none, o_some, e_call, e_blt, e_isi, a_nil, a_cons, i_of, i_rng, c_none, c_some, s_set, s_setLc, s_asg, s_par, s_stI, s_ex, s_ret, s_if, s_rai, s_pass, b_nil, b_cons, M.opt_some, R.bind_ok, R.bind_exc, getE_0, getE_s, List.map_cons, List.map_nil, List.cons_append, List.nil_append, List.length_cons, List.length_nil, List.replicate_succ, List.replicate_zero, Nat.reduceSub, Nat.reduceAdd, List.set_cons_zero, List.set_cons_succ, Option.map_some, BT.nm, wipeE, seqK_n, seqK_r, andK_t, andK_f, orK_f, orK_t, iteK_t, iteK_f, asgK_nm, asgK_t2, asgK_t3, endF_n, endF_r, slI_i, toBl_b, vw_i, vw_b, vw_t, vw_tI, vw_tT, vw_l, vw_s, vw_n, vw_ty, src_t, src_tI, src_tT, src_l, bin_add, bin_sub, neg_i, not_b, R.bind_assoc, e_isx, e_isv, e_lm, e_rngT1, e_rngT2, e_dget, e_din, e_dict, e_dictZ, e_callC, i_enm, s_app, seeL_l, lmK_l, enmK_t, e_lstC, e_addC]
      rw [din_c get_end, lookup_zip (ds := []) hz]
      by_cases hxL : x ∈ L
      · simp only [if_pos hxL, ixs0_get hxL, Option.isSome_some, e_var, e_cst, e_ty, e_gfn, e_bin, e_cmp, e_chn, e_neg, e_nt, e_one, e_and, e_or, e_ite, e_tup, e_lst, e_idx, e_slc, o_none, o_some, e_call, e_blt, e_isi, a_nil, a_cons, i_of, i_rng, c_none, c_some, s_set, s_setLc, s_asg, s_par, s_stI, s_ex, s_ret, s_if, s_rai, s_pass, b_nil, b_cons, M.opt_some, R.bind_ok, R.bind_exc, getE_0, getE_s, List.map_cons, List.map_nil, List.cons_append, List.nil_append, List.length_cons, List.length_nil, List.replicate_succ, List.replicate_zero, Nat.reduceSub, Nat.reduceAdd, List.set_cons_zero, List.set_cons_succ, Option.map_some, BT.nm, wipeE, seqK_n, seqK_r, andK_t, andK_f, orK_f, orK_t, iteK_t, iteK_f, asgK_nm, asgK_t2, asgK_t3, endF_n, endF_r, slI_i, toBl_b, vw_i, vw_b, vw_t, vw_tI, vw_tT, vw_l, vw_s, vw_n, vw_ty, src_t, src_tI, src_tT, src_l, bin_add, bin_sub, neg_i, not_b, R.bind_assoc, e_isx, e_isv, e_lm, e_rngT1, e_rngT2, e_dget, e_din, e_dict, e_dictZ, e_callC, i_enm, s_app, seeL_l, lmK_l, enmK_t, e_lstC, e_addC, decide_eq_true hxL]
      · simp only [if_neg hxL, Option.isSome_none, e_var, e_cst, e_ty, e_gfn, e_bin, e_cmp, e_chn, e_neg, e_nt, e_one, e_and, e_or, e_ite, e_tup, e_lst, e_idx, e_slc, o_none, o_some, e_call, e_blt, e_isi, a_nil, a_cons, i_of, i_rng, c_none, c_some, s_set, s_setLc, s_asg, s_par, s_stI, s_ex, s_ret, s_if, s_rai, s_pass, b_nil, b_cons, M.opt_some, R.bind_ok, R.bind_exc, getE_0, getE_s, List.map_cons, List.map_nil, List.cons_append, List.nil_append, List.length_cons, List.length_nil, List.replicate_succ, List.replicate_zero, Nat.reduceSub, Nat.reduceAdd, List.set_cons_zero, List.set_cons_succ, Option.map_some, BT.nm, wipeE, seqK_n, seqK_r, andK_t, andK_f, orK_f, orK_t, iteK_t, iteK_f, asgK_nm, asgK_t2, asgK_t3, endF_n, endF_r, slI_i, toBl_b, vw_i, vw_b, vw_t, vw_tI, vw_tT, vw_l, vw_s, vw_n, vw_ty, src_t, src_tI, src_tT, src_l, bin_add, bin_sub, neg_i, not_b, R.bind_assoc, e_isx, e_isv, e_lm, e_rngT1, e_rngT2, e_dget, e_din, e_dict, e_dictZ, e_callC, i_enm, s_app, seeL_l, lmK_l, enmK_t, e_lstC, e_addC, decide_eq_false hxL], fun hp => by
      have hxL : x ∈ L := of_decide_eq_true hp
      simp only [e_var, e_cst, e_ty, e_gfn, e_bin, e_cmp, e_chn, e_neg, e_nt, e_one, e_and, e_or, e_ite, e_tup, e_lst, e_idx, e_slc, o_none, o_some, e_call, e_blt, e_isi, a_nil, a_cons, i_of, i_rng, c_none, c_some, s_set, s_setLc, s_asg, s_par, s_stI, s_ex, s_ret, s_if, s_rai, s_pass, b_nil, b_cons, M.opt_some, R.bind_ok, R.bind_exc, getE_0, getE_s, List.map_cons, List.map_nil, List.cons_append, List.nil_append, List.length_cons, List.length_nil, List.replicate_succ, List.replicate_zero, Nat.reduceSub, Nat.reduceAdd, List.set_cons_zero, List.set_cons_succ, Option.map_some, BT.nm, wipeE, seqK_n, seqK_r, andK_t, andK_f, orK_f, orK_t, iteK_t, iteK_f, asgK_nm, asgK_t2, asgK_t3, endF_n, endF_r, slI_i, toBl_b, vw_i, vw_b, vw_t, vw_tI, vw_tT, vw_l, vw_s, vw_n, vw_ty, src_t, src_tI, src_tT, src_l, bin_add, bin_sub, neg_i, not_b, R.bind_assoc, e_isx, e_isv, e_lm, e_rngT1, e_rngT2, e_dget, e_din, e_dict, e_dictZ, e_callC, i_enm, s_app, seeL_l, lmK_l, enmK_t, e_lstC, e_addC]
      rw [dget_c get_end, lookup_zip (ds := []) hz, if_pos hxL, ixs0_get hxL]
      simp only [e_var, e_cst, e_ty, e_gfn, e_bin, e_cmp, e_chn, e_neg, e_nt, e_one, e_and, e_or, e_ite, e_tup, e_lst, e_idx, e_slc, o_none, o_some, e_call, e_blt, e_isi, a_nil, a_cons, i_of, i_rng, c_none, c_some, s_set, s_setLc, s_asg, s_par, s_stI, s_ex, s_ret, s_if, s_rai, s_pass, b_nil, b_cons, M.opt_some, R.bind_ok, R.bind_exc, getE_0, getE_s, List.map_cons, List.map_nil, List.cons_append, List.nil_append, List.length_cons, List.length_nil, List.replicate_succ, List.replicate_zero, Nat.reduceSub, Nat.reduceAdd, List.set_cons_zero, List.set_cons_succ, Option.map_some, BT.nm, wipeE, seqK_n, seqK_r, andK_t, andK_f, orK_f, orK_t, iteK_t, iteK_f, asgK_nm, asgK_t2, asgK_t3, endF_n, endF_r, slI_i, toBl_b, vw_i, vw_b, vw_t, vw_tI, vw_tT, vw_l, vw_s, vw_n, vw_ty, src_t, src_tI, src_tT, src_l, bin_add, bin_sub, neg_i, not_b, R.bind_assoc, e_isx, e_isv, e_lm, e_rngT1, e_rngT2, e_dget, e_din, e_dict, e_dictZ, e_callC, i_enm, s_app, seeL_l, lmK_l, enmK_t, e_lstC, e_addC]⟩)]
    have ecut : (D.tup ((s.filter fun k => decide (k ∈ L)).map fun k => D.int (ixo L k))) = tI (cut L s) := by
      unfold tI cut
      rw [List.map_map]
      rfl
    simp only [e_var, e_cst, e_ty, e_gfn, e_bin, e_cmp, e_chn, e_neg, e_nt, e_one, e_and, e_or, e_ite, e_tup, e_lst, e_idx, e_slc, o_none, o_some, e_call, e_blt, e_isi, a_nil, a_cons, i_of, i_rng, c_none, c_some, s_set, s_setLc, s_asg, s_par, s_stI, s_ex, s_ret, s_if, s_rai, s_pass, b_nil, b_cons, M.opt_some, R.bind_ok, R.bind_exc, getE_0, getE_s, List.map_cons, List.map_nil, List.cons_append, List.nil_append, List.length_cons, List.length_nil, List.replicate_succ, List.replicate_zero, Nat.reduceSub, Nat.reduceAdd, List.set_cons_zero, List.set_cons_succ, Option.map_some, BT.nm, wipeE, seqK_n, seqK_r, andK_t, andK_f, orK_f, orK_t, iteK_t, iteK_f, asgK_nm, asgK_t2, asgK_t3, endF_n, endF_r, slI_i, toBl_b, vw_i, vw_b, vw_t, vw_tI, vw_tT, vw_l, vw_s, vw_n, vw_ty, src_t, src_tI, src_tT, src_l, bin_add, bin_sub, neg_i, not_b, R.bind_assoc, e_isx, e_isv, e_lm, e_rngT1, e_rngT2, e_dget, e_din, e_dict, e_dictZ, e_callC, i_enm, s_app, seeL_l, lmK_l, enmK_t, e_lstC, e_addC, tup_l, ecut, cne_t0]
    by_cases hc : cut L s = []
    · simp only [decide_eq_true hc, Bool.not_true, e_var, e_cst, e_ty, e_gfn, e_bin, e_cmp, e_chn, e_neg, e_nt, e_one, e_and, e_or, e_ite, e_tup, e_lst, e_idx, e_slc, o_none, o_some, e_call, e_blt, e_isi, a_nil, a_cons, i_of, i_rng, c_none, c_some, s_set, s_setLc, s_asg, s_par, s_stI, s_ex, s_ret, s_if, s_rai, s_pass, b_nil, b_cons, M.opt_some, R.bind_ok, R.bind_exc, getE_0, getE_s, List.map_cons, List.map_nil, List.cons_append, List.nil_append, List.length_cons, List.length_nil, List.replicate_succ, List.replicate_zero, Nat.reduceSub, Nat.reduceAdd, List.set_cons_zero, List.set_cons_succ, Option.map_some, BT.nm, wipeE, seqK_n, seqK_r, andK_t, andK_f, orK_f, orK_t, iteK_t, iteK_f, asgK_nm, asgK_t2, asgK_t3, endF_n, endF_r, slI_i, toBl_b, vw_i, vw_b, vw_t, vw_tI, vw_tT, vw_l, vw_s, vw_n, vw_ty, src_t, src_tI, src_tT, src_l, bin_add, bin_sub, neg_i, not_b, R.bind_assoc, e_isx, e_isv, e_lm, e_rngT1, e_rngT2, e_dget, e_din, e_dict, e_dictZ, e_callC, i_enm, s_app, seeL_l, lmK_l, enmK_t, e_lstC, e_addC]
      refine ⟨_, rfl, found, _, _, rfl, rfl, f1, by omega, fun t => ?_⟩
      rw [f3, et]
      constructor
      · rintro ⟨h1, s', hs', rfl⟩
        exact ⟨h1, s', List.mem_append_left _ hs', rfl⟩
      · rintro ⟨h1, s', hs', rfl⟩
        rcases List.mem_append.mp hs' with hs' | hs'
        · exact ⟨h1, s', hs', rfl⟩
        · simp at hs'
          subst hs'
          exact absurd hc h1
    · simp only [decide_eq_false hc, Bool.not_false, e_var, e_cst, e_ty, e_gfn, e_bin, e_cmp, e_chn, e_neg, e_nt, e_one, e_and, e_or, e_ite, e_tup, e_lst, e_idx, e_slc, o_none, o_some, e_call, e_blt, e_isi, a_nil, a_cons, i_of, i_rng, c_none, c_some, s_set, s_setLc, s_asg, s_par, s_stI, s_ex, s_ret, s_if, s_rai, s_pass, b_nil, b_cons, M.opt_some, R.bind_ok, R.bind_exc, getE_0, getE_s, List.map_cons, List.map_nil, List.cons_append, List.nil_append, List.length_cons, List.length_nil, List.replicate_succ, List.replicate_zero, Nat.reduceSub, Nat.reduceAdd, List.set_cons_zero, List.set_cons_succ, Option.map_some, BT.nm, wipeE, seqK_n, seqK_r, andK_t, andK_f, orK_f, orK_t, iteK_t, iteK_f, asgK_nm, asgK_t2, asgK_t3, endF_n, endF_r, slI_i, toBl_b, vw_i, vw_b, vw_t, vw_tI, vw_tT, vw_l, vw_s, vw_n, vw_ty, src_t, src_tI, src_tT, src_l, bin_add, bin_sub, neg_i, not_b, R.bind_assoc, e_isx, e_isv, e_lm, e_rngT1, e_rngT2, e_dget, e_din, e_dict, e_dictZ, e_callC, i_enm, s_app, seeL_l, lmK_l, enmK_t, e_lstC, e_addC, vw_end1, cni_lT]
      by_cases hin : cut L s ∈ found
      · simp only [decide_eq_true hin, Bool.not_true, e_var, e_cst, e_ty, e_gfn, e_bin, e_cmp, e_chn, e_neg, e_nt, e_one, e_and, e_or, e_ite, e_tup, e_lst, e_idx, e_slc, o_none, o_some, e_call, e_blt, e_isi, a_nil, a_cons, i_of, i_rng, c_none, c_some, s_set, s_setLc, s_asg, s_par, s_stI, s_ex, s_ret, s_if, s_rai, s_pass, b_nil, b_cons, M.opt_some, R.bind_ok, R.bind_exc, getE_0, getE_s, List.map_cons, List.map_nil, List.cons_append, List.nil_append, List.length_cons, List.length_nil, List.replicate_succ, List.replicate_zero, Nat.reduceSub, Nat.reduceAdd, List.set_cons_zero, List.set_cons_succ, Option.map_some, BT.nm, wipeE, seqK_n, seqK_r, andK_t, andK_f, orK_f, orK_t, iteK_t, iteK_f, asgK_nm, asgK_t2, asgK_t3, endF_n, endF_r, slI_i, toBl_b, vw_i, vw_b, vw_t, vw_tI, vw_tT, vw_l, vw_s, vw_n, vw_ty, src_t, src_tI, src_tT, src_l, bin_add, bin_sub, neg_i, not_b, R.bind_assoc, e_isx, e_isv, e_lm, e_rngT1, e_rngT2, e_dget, e_din, e_dict, e_dictZ, e_callC, i_enm, s_app, seeL_l, lmK_l, enmK_t, e_lstC, e_addC]
        refine ⟨_, rfl, found, _, _, rfl, rfl, f1, by omega, fun t => ?_⟩
        rw [f3, et]
        constructor
        · rintro ⟨h1, s', hs', rfl⟩
          exact ⟨h1, s', List.mem_append_left _ hs', rfl⟩
        · rintro ⟨h1, s', hs', rfl⟩
          rcases List.mem_append.mp hs' with hs' | hs'
          · exact ⟨h1, s', hs', rfl⟩
          · simp at hs'
            subst hs'
            exact (f3 _).mp hin
      · simp only [decide_eq_false hin, Bool.not_false, e_var, e_cst, e_ty, e_gfn, e_bin, e_cmp, e_chn, e_neg, e_nt, e_one, e_and, e_or, e_ite, e_tup, e_lst, e_idx, e_slc, o_none, o_some, e_call, e_blt, e_isi, a_nil, a_cons, i_of, i_rng, c_none, c_some, s_set, s_setLc, s_asg, s_par, s_stI, s_ex, s_ret, s_if, s_rai, s_pass, b_nil, b_cons, M.opt_some, R.bind_ok, R.bind_exc, getE_0, getE_s, List.map_cons, List.map_nil, List.cons_append, List.nil_append, List.length_cons, List.length_nil, List.replicate_succ, List.replicate_zero, Nat.reduceSub, Nat.reduceAdd, List.set_cons_zero, List.set_cons_succ, Option.map_some, BT.nm, wipeE, seqK_n, seqK_r, andK_t, andK_f, orK_f, orK_t, iteK_t, iteK_f, asgK_nm, asgK_t2, asgK_t3, endF_n, endF_r, slI_i, toBl_b, vw_i, vw_b, vw_t, vw_tI, vw_tT, vw_l, vw_s, vw_n, vw_ty, src_t, src_tI, src_tT, src_l, bin_add, bin_sub, neg_i, not_b, R.bind_assoc, e_isx, e_isv, e_lm, e_rngT1, e_rngT2, e_dget, e_din, e_dict, e_dictZ, e_callC, i_enm, s_app, seeL_l, lmK_l, enmK_t, e_lstC, e_addC]
        rw [lstAt_c get_end1]
        simp only [e_var, e_cst, e_ty, e_gfn, e_bin, e_cmp, e_chn, e_neg, e_nt, e_one, e_and, e_or, e_ite, e_tup, e_lst, e_idx, e_slc, o_none, o_some, e_call, e_blt, e_isi, a_nil, a_cons, i_of, i_rng, c_none, c_some, s_set, s_setLc, s_asg, s_par, s_stI, s_ex, s_ret, s_if, s_rai, s_pass, b_nil, b_cons, M.opt_some, R.bind_ok, R.bind_exc, getE_0, getE_s, List.map_cons, List.map_nil, List.cons_append, List.nil_append, List.length_cons, List.length_nil, List.replicate_succ, List.replicate_zero, Nat.reduceSub, Nat.reduceAdd, List.set_cons_zero, List.set_cons_succ, Option.map_some, BT.nm, wipeE, seqK_n, seqK_r, andK_t, andK_f, orK_f, orK_t, iteK_t, iteK_f, asgK_nm, asgK_t2, asgK_t3, endF_n, endF_r, slI_i, toBl_b, vw_i, vw_b, vw_t, vw_tI, vw_tT, vw_l, vw_s, vw_n, vw_ty, src_t, src_tI, src_tT, src_l, bin_add, bin_sub, neg_i, not_b, R.bind_assoc, e_isx, e_isv, e_lm, e_rngT1, e_rngT2, e_dget, e_din, e_dict, e_dictZ, e_callC, i_enm, s_app, seeL_l, lmK_l, enmK_t, e_lstC, e_addC]
        rw [app_c get_end1 (by
          rw [List.length_map]
          show found.length < 16777216
          omega)]
        simp only [e_var, e_cst, e_ty, e_gfn, e_bin, e_cmp, e_chn, e_neg, e_nt, e_one, e_and, e_or, e_ite, e_tup, e_lst, e_idx, e_slc, o_none, o_some, e_call, e_blt, e_isi, a_nil, a_cons, i_of, i_rng, c_none, c_some, s_set, s_setLc, s_asg, s_par, s_stI, s_ex, s_ret, s_if, s_rai, s_pass, b_nil, b_cons, M.opt_some, R.bind_ok, R.bind_exc, getE_0, getE_s, List.map_cons, List.map_nil, List.cons_append, List.nil_append, List.length_cons, List.length_nil, List.replicate_succ, List.replicate_zero, Nat.reduceSub, Nat.reduceAdd, List.set_cons_zero, List.set_cons_succ, Option.map_some, BT.nm, wipeE, seqK_n, seqK_r, andK_t, andK_f, orK_f, orK_t, iteK_t, iteK_f, asgK_nm, asgK_t2, asgK_t3, endF_n, endF_r, slI_i, toBl_b, vw_i, vw_b, vw_t, vw_tI, vw_tT, vw_l, vw_s, vw_n, vw_ty, src_t, src_tI, src_tT, src_l, bin_add, bin_sub, neg_i, not_b, R.bind_assoc, e_isx, e_isv, e_lm, e_rngT1, e_rngT2, e_dget, e_din, e_dict, e_dictZ, e_callC, i_enm, s_app, seeL_l, lmK_l, enmK_t, e_lstC, e_addC, set_end1]
        have e9 : found.map tI ++ [tI (cut L s)] = (found ++ [cut L s]).map tI := by simp
        rw [e9]
        refine ⟨_, rfl, found ++ [cut L s], _, _, rfl, rfl, ?_, by simp; omega, fun t => ?_⟩
        · rw [List.nodup_append]
          refine ⟨f1, by simp, fun a ha b hb => ?_⟩
          simp at hb
          subst hb
          rintro rfl
          exact hin ha
        · rw [List.mem_append, f3, et]
          constructor
          · rintro (⟨h1, s', hs', rfl⟩ | h1)
            · exact ⟨h1, s', List.mem_append_left _ hs', rfl⟩
            · simp at h1
              subst h1
              exact ⟨hc, s, by simp, rfl⟩
          · rintro ⟨h1, s', hs', rfl⟩
            rcases List.mem_append.mp hs' with hs' | hs'
            · exact .inl ⟨h1, s', hs', rfl⟩
            · simp at hs'
              subst hs'
              exact .inr (by simp)
  obtain ⟨fl, S', e, ρ', rfl, found, t1, t2, rfl, rfl, f1, f2, f3⟩ := key.get
  rw [List.take_length] at f3
  have run : ∀ d, Ok ((exB (runF fs k) (.cons (.ret (.ite (.cmp .NotEq (.var 3) (.lst .nil)) (.tup (.cons (.blt .len (.cons (.var 1) .nil)) (.cons (.blt .tuple (.cons (.blt .sorted (.cons (.var 3) .nil)) .nil)) .nil))) (.cst .non))) .nil) [some (fam n ss), some (tI L), some (.cell S.length), some (.cell (S.length + 1)), none, none, t1, t2] (S ++ [.dI (L.zip (ixs0 L)), .lst (found.map tI)])).bind endF) d S → Ok (runF fs (k + 1) "found_within" [fam n ss, tI L] S) d S := by
    intro d hd
    rw [rf_eq h]
    simp only [b_found_within, e_var, e_cst, e_ty, e_gfn, e_bin, e_cmp, e_chn, e_neg, e_nt, e_one, e_and, e_or, e_ite, e_tup, e_lst, e_idx, e_slc, o_none, o_some, e_call, e_blt, e_isi, a_nil, a_cons, i_of, i_rng, c_none, c_some, s_set, s_setLc, s_asg, s_par, s_stI, s_ex, s_ret, s_if, s_rai, s_pass, b_nil, b_cons, M.opt_some, R.bind_ok, R.bind_exc, getE_0, getE_s, List.map_cons, List.map_nil, List.cons_append, List.nil_append, List.length_cons, List.length_nil, List.replicate_succ, List.replicate_zero, Nat.reduceSub, Nat.reduceAdd, List.set_cons_zero, List.set_cons_succ, Option.map_some, BT.nm, wipeE, seqK_n, seqK_r, andK_t, andK_f, orK_f, orK_t, iteK_t, iteK_f, asgK_nm, asgK_t2, asgK_t3, endF_n, endF_r, slI_i, toBl_b, vw_i, vw_b, vw_t, vw_tI, vw_tT, vw_l, vw_s, vw_n, vw_ty, src_t, src_tI, src_tT, src_l, bin_add, bin_sub, neg_i, not_b, R.bind_assoc, e_isx, e_isv, e_lm, e_rngT1, e_rngT2, e_dget, e_din, e_dict, e_dictZ, e_callC, i_enm, s_app, seeL_l, lmK_l, enmK_t, e_lstC, e_addC]
    rw [lcE_enm L D.int (fun i x => D.tup [.int x, .int (i : Nat)]) (by simp only [e_var, e_cst, e_ty, e_gfn, e_bin, e_cmp, e_chn, e_neg, e_nt, e_one, e_and, e_or, e_ite, e_tup, e_lst, e_idx, e_slc, o_none, o_some, e_call, e_blt, e_isi, a_nil, a_cons, i_of, i_rng, c_none, c_some, s_set, s_setLc, s_asg, s_par, s_stI, s_ex, s_ret, s_if, s_rai, s_pass, b_nil, b_cons, M.opt_some, R.bind_ok, R.bind_exc, getE_0, getE_s, List.map_cons, List.map_nil, List.cons_append, List.nil_append, List.length_cons, List.length_nil, List.replicate_succ, List.replicate_zero, Nat.reduceSub, Nat.reduceAdd, List.set_cons_zero, List.set_cons_succ, Option.map_some, BT.nm, wipeE, seqK_n, seqK_r, andK_t, andK_f, orK_f, orK_t, iteK_t, iteK_f, asgK_nm, asgK_t2, asgK_t3, endF_n, endF_r, slI_i, toBl_b, vw_i, vw_b, vw_t, vw_tI, vw_tT, vw_l, vw_s, vw_n, vw_ty, src_t, src_tI, src_tT, src_l, bin_add, bin_sub, neg_i, not_b, R.bind_assoc, e_isx, e_isv, e_lm, e_rngT1, e_rngT2, e_dget, e_din, e_dict, e_dictZ, e_callC, i_enm, s_app, seeL_l, lmK_l, enmK_t, e_lstC, e_addC, tI]) (fun i x hx => ⟨_, rfl, by simp only [e_var, e_cst, e_ty, e_gfn, e_bin, e_cmp, e_chn, e_neg, e_nt, e_one, e_and, e_or, e_ite, e_tup, e_lst, e_idx, e_slc, o_none, o_some, e_call, e_blt, e_isi, a_nil, a_cons, i_of, i_rng, c_none, c_some, s_set, s_setLc, s_asg, s_par, s_stI, s_ex, s_ret, s_if, s_rai, s_pass, b_nil, b_cons, M.opt_some, R.bind_ok, R.bind_exc, getE_0, getE_s, List.map_cons, List.map_nil, List.cons_append, List.nil_append, List.length_cons, List.length_nil, List.replicate_succ, List.replicate_zero, Nat.reduceSub, Nat.reduceAdd, List.set_cons_zero, List.set_cons_succ, Option.map_some, BT.nm, wipeE, seqK_n, seqK_r, andK_t, andK_f, orK_f, orK_t, iteK_t, iteK_f, asgK_nm, asgK_t2, asgK_t3, endF_n, endF_r, slI_i, toBl_b, vw_i, vw_b, vw_t, vw_tI, vw_tT, vw_l, vw_s, vw_n, vw_ty, src_t, src_tI, src_tT, src_l, bin_add, bin_sub, neg_i, not_b, R.bind_assoc, e_isx, e_isv, e_lm, e_rngT1, e_rngT2, e_dget, e_din, e_dict, e_dictZ, e_callC, i_enm, s_app, seeL_l, lmK_l, enmK_t, e_lstC, e_addC]⟩)]
    simp only [e_var, e_cst, e_ty, e_gfn, e_bin, e_cmp, e_chn, e_neg, e_nt, e_one, e_and, e_or, e_ite, e_tup, e_lst, e_idx, e_slc, o_none, o_some, e_call, e_blt, e_isi, a_nil, a_cons, i_of, i_rng, c_none, c_some, s_set, s_setLc, s_asg, s_par, s_stI, s_ex, s_ret, s_if, s_rai, s_pass, b_nil, b_cons, M.opt_some, R.bind_ok, R.bind_exc, getE_0, getE_s, List.map_cons, List.map_nil, List.cons_append, List.nil_append, List.length_cons, List.length_nil, List.replicate_succ, List.replicate_zero, Nat.reduceSub, Nat.reduceAdd, List.set_cons_zero, List.set_cons_succ, Option.map_some, BT.nm, wipeE, seqK_n, seqK_r, andK_t, andK_f, orK_f, orK_t, iteK_t, iteK_f, asgK_nm, asgK_t2, asgK_t3, endF_n, endF_r, slI_i, toBl_b, vw_i, vw_b, vw_t, vw_tI, vw_tT, vw_l, vw_s, vw_n, vw_ty, src_t, src_tI, src_tT, src_l, bin_add, bin_sub, neg_i, not_b, R.bind_assoc, e_isx, e_isv, e_lm, e_rngT1, e_rngT2, e_dget, e_din, e_dict, e_dictZ, e_callC, i_enm, s_app, seeL_l, lmK_l, enmK_t, e_lstC, e_addC, dictK, pairs_enum, newDict]
    rw [mergeD_new _ _ (by rw [List.nil_append, zip_keys hz]; exact nd)]
    simp only [e_var, e_cst, e_ty, e_gfn, e_bin, e_cmp, e_chn, e_neg, e_nt, e_one, e_and, e_or, e_ite, e_tup, e_lst, e_idx, e_slc, o_none, o_some, e_call, e_blt, e_isi, a_nil, a_cons, i_of, i_rng, c_none, c_some, s_set, s_setLc, s_asg, s_par, s_stI, s_ex, s_ret, s_if, s_rai, s_pass, b_nil, b_cons, M.opt_some, R.bind_ok, R.bind_exc, getE_0, getE_s, List.map_cons, List.map_nil, List.cons_append, List.nil_append, List.length_cons, List.length_nil, List.replicate_succ, List.replicate_zero, Nat.reduceSub, Nat.reduceAdd, List.set_cons_zero, List.set_cons_succ, Option.map_some, BT.nm, wipeE, seqK_n, seqK_r, andK_t, andK_f, orK_f, orK_t, iteK_t, iteK_f, asgK_nm, asgK_t2, asgK_t3, endF_n, endF_r, slI_i, toBl_b, vw_i, vw_b, vw_t, vw_tI, vw_tT, vw_l, vw_s, vw_n, vw_ty, src_t, src_tI, src_tT, src_l, bin_add, bin_sub, neg_i, not_b, R.bind_assoc, e_isx, e_isv, e_lm, e_rngT1, e_rngT2, e_dget, e_din, e_dict, e_dictZ, e_callC, i_enm, s_app, seeL_l, lmK_l, enmK_t, e_lstC, e_addC]
    have e2 : S ++ [Cell.dI (L.zip (ixs0 L))] ++ [Cell.lst []] = S ++ [.dI (L.zip (ixs0 L)), .lst []] := by simp
    have e3 : (S ++ [Cell.dI (L.zip (ixs0 L))]).length = S.length + 1 := by simp
    rw [e2, e3]
    rw [e]
    simp only [e_var, e_cst, e_ty, e_gfn, e_bin, e_cmp, e_chn, e_neg, e_nt, e_one, e_and, e_or, e_ite, e_tup, e_lst, e_idx, e_slc, o_none, o_some, e_call, e_blt, e_isi, a_nil, a_cons, i_of, i_rng, c_none, c_some, s_set, s_setLc, s_asg, s_par, s_stI, s_ex, s_ret, s_if, s_rai, s_pass, b_nil, b_cons, M.opt_some, R.bind_ok, R.bind_exc, getE_0, getE_s, List.map_cons, List.map_nil, List.cons_append, List.nil_append, List.length_cons, List.length_nil, List.replicate_succ, List.replicate_zero, Nat.reduceSub, Nat.reduceAdd, List.set_cons_zero, List.set_cons_succ, Option.map_some, BT.nm, wipeE, seqK_n, seqK_r, andK_t, andK_f, orK_f, orK_t, iteK_t, iteK_f, asgK_nm, asgK_t2, asgK_t3, endF_n, endF_r, slI_i, toBl_b, vw_i, vw_b, vw_t, vw_tI, vw_tT, vw_l, vw_s, vw_n, vw_ty, src_t, src_tI, src_tT, src_l, bin_add, bin_sub, neg_i, not_b, R.bind_assoc, e_isx, e_isv, e_lm, e_rngT1, e_rngT2, e_dget, e_din, e_dict, e_dictZ, e_callC, i_enm, s_app, seeL_l, lmK_l, enmK_t, e_lstC, e_addC]
    simp only [e_var, e_cst, e_ty, e_gfn, e_bin, e_cmp, e_chn, e_neg, e_nt, e_one, e_and, e_or, e_ite, e_tup, e_lst, e_idx, e_slc, o_none, o_some, e_call, e_blt, e_isi, a_nil, a_cons, i_of, i_rng, c_none, c_some, s_set, s_setLc, s_asg, s_par, s_stI, s_ex, s_ret, s_if, s_rai, s_pass, b_nil, b_cons, M.opt_some, R.bind_ok, R.bind_exc, getE_0, getE_s, List.map_cons, List.map_nil, List.cons_append, List.nil_append, List.length_cons, List.length_nil, List.replicate_succ, List.replicate_zero, Nat.reduceSub, Nat.reduceAdd, List.set_cons_zero, List.set_cons_succ, Option.map_some, BT.nm, wipeE, seqK_n, seqK_r, andK_t, andK_f, orK_f, orK_t, iteK_t, iteK_f, asgK_nm, asgK_t2, asgK_t3, endF_n, endF_r, slI_i, toBl_b, vw_i, vw_b, vw_t, vw_tI, vw_tT, vw_l, vw_s, vw_n, vw_ty, src_t, src_tI, src_tT, src_l, bin_add, bin_sub, neg_i, not_b, R.bind_assoc, e_isx, e_isv, e_lm, e_rngT1, e_rngT2, e_dget, e_din, e_dict, e_dictZ, e_callC, i_enm, s_app, seeL_l, lmK_l, enmK_t, e_lstC, e_addC] at hd
    exact hd
  by_cases hf : found = []
  · refine ⟨.non, .inl ⟨rfl, fun s hs => ?_⟩, run _ ?_⟩
    · refine Classical.byContradiction fun hc => ?_
      have := (f3 (cut L s)).mpr ⟨hc, s, hs, rfl⟩
      rw [hf] at this
      cases this
    · simp only [e_var, e_cst, e_ty, e_gfn, e_bin, e_cmp, e_chn, e_neg, e_nt, e_one, e_and, e_or, e_ite, e_tup, e_lst, e_idx, e_slc, o_none, o_some, e_call, e_blt, e_isi, a_nil, a_cons, i_of, i_rng, c_none, c_some, s_set, s_setLc, s_asg, s_par, s_stI, s_ex, s_ret, s_if, s_rai, s_pass, b_nil, b_cons, M.opt_some, R.bind_ok, R.bind_exc, getE_0, getE_s, List.map_cons, List.map_nil, List.cons_append, List.nil_append, List.length_cons, List.length_nil, List.replicate_succ, List.replicate_zero, Nat.reduceSub, Nat.reduceAdd, List.set_cons_zero, List.set_cons_succ, Option.map_some, BT.nm, wipeE, seqK_n, seqK_r, andK_t, andK_f, orK_f, orK_t, iteK_t, iteK_f, asgK_nm, asgK_t2, asgK_t3, endF_n, endF_r, slI_i, toBl_b, vw_i, vw_b, vw_t, vw_tI, vw_tT, vw_l, vw_s, vw_n, vw_ty, src_t, src_tI, src_tT, src_l, bin_add, bin_sub, neg_i, not_b, R.bind_assoc, e_isx, e_isv, e_lm, e_rngT1, e_rngT2, e_dget, e_din, e_dict, e_dictZ, e_callC, i_enm, s_app, seeL_l, lmK_l, enmK_t, e_lstC, e_addC, vw_end1, cne_lT0, decide_eq_true hf, Bool.not_true]
      exact ⟨_, rfl, Gr.app _ _⟩
  · obtain ⟨ys, s1, s2, s3⟩ := sortD_tI found
    refine ⟨fam L.length ys, .inr ⟨ys, rfl, ⟨?_, by omega, fun z => hf (by rw [z] at s2; exact List.nil_perm.mp s2 |> fun z => z), by rw [s2.length_eq]; exact Nat.le_trans f2 F.le, fun t ht => ?_, ?_⟩, fun t => by rw [s2.mem_iff]; exact f3 t⟩, run _ ?_⟩
    · have : L.length ≠ 0 := fun z => hL.1 (List.length_eq_zero_iff.mp z)
      omega
    · obtain ⟨h1, s, hs, rfl⟩ := (f3 t).mp (s2.mem_iff.mp ht)
      exact cut_lot hinc (F.lot s hs).2.2 h1
    · have hd : ys.Nodup := s2.nodup_iff.mpr f1
      refine s3.imp₂ (fun x y h1 h2 => ?_) hd
      cases hq : HT.lexLt x y with
      | true => rfl
      | false => exact absurd (lexLt_tri x y hq h1) h2
    · simp only [e_var, e_cst, e_ty, e_gfn, e_bin, e_cmp, e_chn, e_neg, e_nt, e_one, e_and, e_or, e_ite, e_tup, e_lst, e_idx, e_slc, o_none, o_some, e_call, e_blt, e_isi, a_nil, a_cons, i_of, i_rng, c_none, c_some, s_set, s_setLc, s_asg, s_par, s_stI, s_ex, s_ret, s_if, s_rai, s_pass, b_nil, b_cons, M.opt_some, R.bind_ok, R.bind_exc, getE_0, getE_s, List.map_cons, List.map_nil, List.cons_append, List.nil_append, List.length_cons, List.length_nil, List.replicate_succ, List.replicate_zero, Nat.reduceSub, Nat.reduceAdd, List.set_cons_zero, List.set_cons_succ, Option.map_some, BT.nm, wipeE, seqK_n, seqK_r, andK_t, andK_f, orK_f, orK_t, iteK_t, iteK_f, asgK_nm, asgK_t2, asgK_t3, endF_n, endF_r, slI_i, toBl_b, vw_i, vw_b, vw_t, vw_tI, vw_tT, vw_l, vw_s, vw_n, vw_ty, src_t, src_tI, src_tT, src_l, bin_add, bin_sub, neg_i, not_b, R.bind_assoc, e_isx, e_isv, e_lm, e_rngT1, e_rngT2, e_dget, e_din, e_dict, e_dictZ, e_callC, i_enm, s_app, seeL_l, lmK_l, enmK_t, e_lstC, e_addC, vw_end1, cne_lT0, decide_eq_false hf, Bool.not_false, len_tI]
      rw [sorted_v vw_end1 (sortOk_tI found fun x hx => ((f3 x).mp hx).1), s1]
      simp only [e_var, e_cst, e_ty, e_gfn, e_bin, e_cmp, e_chn, e_neg, e_nt, e_one, e_and, e_or, e_ite, e_tup, e_lst, e_idx, e_slc, o_none, o_some, e_call, e_blt, e_isi, a_nil, a_cons, i_of, i_rng, c_none, c_some, s_set, s_setLc, s_asg, s_par, s_stI, s_ex, s_ret, s_if, s_rai, s_pass, b_nil, b_cons, M.opt_some, R.bind_ok, R.bind_exc, getE_0, getE_s, List.map_cons, List.map_nil, List.cons_append, List.nil_append, List.length_cons, List.length_nil, List.replicate_succ, List.replicate_zero, Nat.reduceSub, Nat.reduceAdd, List.set_cons_zero, List.set_cons_succ, Option.map_some, BT.nm, wipeE, seqK_n, seqK_r, andK_t, andK_f, orK_f, orK_t, iteK_t, iteK_f, asgK_nm, asgK_t2, asgK_t3, endF_n, endF_r, slI_i, toBl_b, vw_i, vw_b, vw_t, vw_tI, vw_tT, vw_l, vw_s, vw_n, vw_ty, src_t, src_tI, src_tT, src_l, bin_add, bin_sub, neg_i, not_b, R.bind_assoc, e_isx, e_isv, e_lm, e_rngT1, e_rngT2, e_dget, e_din, e_dict, e_dictZ, e_callC, i_enm, s_app, seeL_l, lmK_l, enmK_t, e_lstC, e_addC, tup_l]
      exact ⟨_, rfl, Gr.app _ _⟩
end
end LC

end
section
set_option maxHeartbeats 4000000
/-! Q3: within, some_numbers, lot_uneven, worst_lot, is_always_even. -/
namespace LC
open PySem PySem.Spec PyProof.Rows L2
theorem atI_last {α : Type} {xs : List α} (h : xs ≠ []) : atI xs (-1) = some (xs.getLast h) := by
  unfold atI ixN
  have hl : xs.length ≠ 0 := fun z => h (List.length_eq_zero_iff.mp z)
  rw [if_neg (by decide), if_pos (by omega)]
  show xs[((-1 : Int) + (xs.length : Nat)).toNat]? = _
  rw [show ((-1 : Int) + (xs.length : Nat)).toNat = xs.length - 1 by omega, List.getLast_eq_getElem, List.getElem?_eq_getElem]
theorem lastOk_ne {r : List Int} (h : r ≠ []) (x : Int) : lastOk r x = decide (r.getLast h < x) := by
  unfold lastOk
  rw [List.getLast?_eq_some_getLast h]
theorem nums_small : ∀ m ∈ List.range 9, ∀ t ∈ List.range 9, (nums m t).length ≤ 70 := by decide +kernel
theorem nums_len {m t : Nat} (hm : m ≤ 8) (ht : t ≤ 8) : (nums m t).length ≤ 70 := nums_small m (List.mem_range.mpr (by omega)) t (List.mem_range.mpr (by omega))
theorem rng_2 {i j : Int} (h : -1000000 ≤ i ∧ i ≤ 1000000 ∧ -1000000 ≤ j ∧ j ≤ 1000000) : rngD [.int i, .int j] = some (.fix (rangeD i (j - i).toNat)) := if_pos h
structure HasW (fs : Str → Option Fn) : Prop extends HasL fs where
  som : fs "some_numbers" = some ⟨2, 6, b_some_numbers⟩
  flu : fs "found_lot_uneven" = some ⟨2, 3, b_found_lot_uneven⟩
  wor : fs "worst_lot" = some ⟨1, 6, b_worst_lot⟩
  alw : fs "is_always_even" = some ⟨1, 1, b_is_always_even⟩
section
variable {fs : Str → Option Fn} {k : Nat} {S : Store} {n : Int} {ss : List (List Int)} {L : List Int}
theorem r_within (h : HasL fs) (hw : fs "within" = some ⟨2, 2, b_within⟩) (F : FamOk n ss) (hL : lotOk n L) : ∃ d, Within L ss d ∧ Ok (runF fs (k + 5) "within" [fam n ss, tI L] S) d S := by
  obtain ⟨d, hd, S1, e, g⟩ := r_found_within (k := k + 3) (S := S) h.fwi F hL
  refine ⟨d, hd, S1, ?_, g⟩
  rw [rf_eq hw]
  simp only [b_within, e_var, e_cst, e_ty, e_gfn, e_bin, e_cmp, e_chn, e_neg, e_nt, e_one, e_and, e_or, e_ite, e_tup, e_lst, e_idx, e_slc, o_none, o_some, e_call, e_blt, e_isi, a_nil, a_cons, i_of, i_rng, c_none, c_some, s_set, s_setLc, s_asg, s_par, s_stI, s_ex, s_ret, s_if, s_rai, s_pass, b_nil, b_cons, M.opt_some, R.bind_ok, R.bind_exc, getE_0, getE_s, List.map_cons, List.map_nil, List.cons_append, List.nil_append, List.length_cons, List.length_nil, List.replicate_succ, List.replicate_zero, Nat.reduceSub, Nat.reduceAdd, List.set_cons_zero, List.set_cons_succ, Option.map_some, BT.nm, wipeE, seqK_n, seqK_r, andK_t, andK_f, orK_f, orK_t, iteK_t, iteK_f, asgK_nm, asgK_t2, asgK_t3, endF_n, endF_r, slI_i, toBl_b, vw_i, vw_b, vw_t, vw_tI, vw_tT, vw_l, vw_s, vw_n, vw_ty, src_t, src_tI, src_tT, src_l, bin_add, bin_sub, neg_i, not_b, R.bind_assoc, e_isx, e_isv, e_lm, e_rngT1, e_rngT2, e_dget, e_din, e_dict, e_dictZ, e_callC, i_enm, s_app, seeL_l, lmK_l, enmK_t, e_lstC, e_addC]
  rw [r_check_family h.toHasF F]
  simp only [e_var, e_cst, e_ty, e_gfn, e_bin, e_cmp, e_chn, e_neg, e_nt, e_one, e_and, e_or, e_ite, e_tup, e_lst, e_idx, e_slc, o_none, o_some, e_call, e_blt, e_isi, a_nil, a_cons, i_of, i_rng, c_none, c_some, s_set, s_setLc, s_asg, s_par, s_stI, s_ex, s_ret, s_if, s_rai, s_pass, b_nil, b_cons, M.opt_some, R.bind_ok, R.bind_exc, getE_0, getE_s, List.map_cons, List.map_nil, List.cons_append, List.nil_append, List.length_cons, List.length_nil, List.replicate_succ, List.replicate_zero, Nat.reduceSub, Nat.reduceAdd, List.set_cons_zero, List.set_cons_succ, Option.map_some, BT.nm, wipeE, seqK_n, seqK_r, andK_t, andK_f, orK_f, orK_t, iteK_t, iteK_f, asgK_nm, asgK_t2, asgK_t3, endF_n, endF_r, slI_i, toBl_b, vw_i, vw_b, vw_t, vw_tI, vw_tT, vw_l, vw_s, vw_n, vw_ty, src_t, src_tI, src_tT, src_l, bin_add, bin_sub, neg_i, not_b, R.bind_assoc, e_isx, e_isv, e_lm, e_rngT1, e_rngT2, e_dget, e_din, e_dict, e_dictZ, e_callC, i_enm, s_app, seeL_l, lmK_l, enmK_t, e_lstC, e_addC]
  rw [r_check_lot h.toHasF h.chl F.hi hL]
  simp only [e_var, e_cst, e_ty, e_gfn, e_bin, e_cmp, e_chn, e_neg, e_nt, e_one, e_and, e_or, e_ite, e_tup, e_lst, e_idx, e_slc, o_none, o_some, e_call, e_blt, e_isi, a_nil, a_cons, i_of, i_rng, c_none, c_some, s_set, s_setLc, s_asg, s_par, s_stI, s_ex, s_ret, s_if, s_rai, s_pass, b_nil, b_cons, M.opt_some, R.bind_ok, R.bind_exc, getE_0, getE_s, List.map_cons, List.map_nil, List.cons_append, List.nil_append, List.length_cons, List.length_nil, List.replicate_succ, List.replicate_zero, Nat.reduceSub, Nat.reduceAdd, List.set_cons_zero, List.set_cons_succ, Option.map_some, BT.nm, wipeE, seqK_n, seqK_r, andK_t, andK_f, orK_f, orK_t, iteK_t, iteK_f, asgK_nm, asgK_t2, asgK_t3, endF_n, endF_r, slI_i, toBl_b, vw_i, vw_b, vw_t, vw_tI, vw_tT, vw_l, vw_s, vw_n, vw_ty, src_t, src_tI, src_tT, src_l, bin_add, bin_sub, neg_i, not_b, R.bind_assoc, e_isx, e_isv, e_lm, e_rngT1, e_rngT2, e_dget, e_din, e_dict, e_dictZ, e_callC, i_enm, s_app, seeL_l, lmK_l, enmK_t, e_lstC, e_addC]
  rw [e]
  simp only [e_var, e_cst, e_ty, e_gfn, e_bin, e_cmp, e_chn, e_neg, e_nt, e_one, e_and, e_or, e_ite, e_tup, e_lst, e_idx, e_slc, o_none, o_some, e_call, e_blt, e_isi, a_nil, a_cons, i_of, i_rng, c_none, c_some, s_set, s_setLc, s_asg, s_par, s_stI, s_ex, s_ret, s_if, s_rai, s_pass, b_nil, b_cons, M.opt_some, R.bind_ok, R.bind_exc, getE_0, getE_s, List.map_cons, List.map_nil, List.cons_append, List.nil_append, List.length_cons, List.length_nil, List.replicate_succ, List.replicate_zero, Nat.reduceSub, Nat.reduceAdd, List.set_cons_zero, List.set_cons_succ, Option.map_some, BT.nm, wipeE, seqK_n, seqK_r, andK_t, andK_f, orK_f, orK_t, iteK_t, iteK_f, asgK_nm, asgK_t2, asgK_t3, endF_n, endF_r, slI_i, toBl_b, vw_i, vw_b, vw_t, vw_tI, vw_tT, vw_l, vw_s, vw_n, vw_ty, src_t, src_tI, src_tT, src_l, bin_add, bin_sub, neg_i, not_b, R.bind_assoc, e_isx, e_isv, e_lm, e_rngT1, e_rngT2, e_dget, e_din, e_dict, e_dictZ, e_callC, i_enm, s_app, seeL_l, lmK_l, enmK_t, e_lstC, e_addC]
theorem r_nums {x : Str} (h : fs x = some ⟨2, 6, b_some_numbers⟩) {m t : Nat} (hm : m ≤ 8) (ht : t ≤ 8) : runF fs (k + 1) x [.int m, .int t] S = .ok (.lst ((nums m t).map tI)) S := by
  rw [rf_eq h]
  have h1 : Wp (exS (runF fs k) (.for_ (.rng (.cons (.var 1) .nil)) (.nm 3) b_some_numbers_1) [some (.int m), some (.int t), some (.lst [.tup []]), none, none, none] S) (fun fl S' => ∃ ρ', fl = .nx ρ' ∧ S' = S ∧ ∃ t1 : Option D, ρ' = [some (.int m), some (.int t), some (.lst ((nums m (List.range t).length).map tI)), t1, none, none]) := by
    refine wpFn (S1 := S) (List.range t) (fun i : Nat => D.int (i : Int)) ?_ (fun i ρ' S' => S' = S ∧ ∃ t1 : Option D, ρ' = [some (.int m), some (.int t), some (.lst ((nums m i).map tI)), t1, none, none]) ⟨rfl, none, rfl⟩ (fun i a ρ' S' hx hI => ?_)
    · simp only [e_var, e_cst, e_ty, e_gfn, e_bin, e_cmp, e_chn, e_neg, e_nt, e_one, e_and, e_or, e_ite, e_tup, e_lst, e_idx, e_slc, o_none, o_some, e_call, e_blt, e_isi, a_nil, a_cons, i_of, i_rng, c_none, c_some, s_set, s_setLc, s_asg, s_par, s_stI, s_ex, s_ret, s_if, s_rai, s_pass, b_nil, b_cons, M.opt_some, R.bind_ok, R.bind_exc, getE_0, getE_s, List.map_cons, List.map_nil, List.cons_append, List.nil_append, List.length_cons, List.length_nil, List.replicate_succ, List.replicate_zero, Nat.reduceSub, Nat.reduceAdd, List.set_cons_zero, List.set_cons_succ, Option.map_some, BT.nm, wipeE, seqK_n, seqK_r, andK_t, andK_f, orK_f, orK_t, iteK_t, iteK_f, asgK_nm, asgK_t2, asgK_t3, endF_n, endF_r, slI_i, toBl_b, vw_i, vw_b, vw_t, vw_tI, vw_tT, vw_l, vw_s, vw_n, vw_ty, src_t, src_tI, src_tT, src_l, bin_add, bin_sub, neg_i, not_b, R.bind_assoc, e_isx, e_isv, e_lm, e_rngT1, e_rngT2, e_dget, e_din, e_dict, e_dictZ, e_callC, i_enm, s_app, seeL_l, lmK_l, enmK_t, e_lstC, e_addC]
      rw [rng_1 (by omega), rangeD_n]
      simp only [e_var, e_cst, e_ty, e_gfn, e_bin, e_cmp, e_chn, e_neg, e_nt, e_one, e_and, e_or, e_ite, e_tup, e_lst, e_idx, e_slc, o_none, o_some, e_call, e_blt, e_isi, a_nil, a_cons, i_of, i_rng, c_none, c_some, s_set, s_setLc, s_asg, s_par, s_stI, s_ex, s_ret, s_if, s_rai, s_pass, b_nil, b_cons, M.opt_some, R.bind_ok, R.bind_exc, getE_0, getE_s, List.map_cons, List.map_nil, List.cons_append, List.nil_append, List.length_cons, List.length_nil, List.replicate_succ, List.replicate_zero, Nat.reduceSub, Nat.reduceAdd, List.set_cons_zero, List.set_cons_succ, Option.map_some, BT.nm, wipeE, seqK_n, seqK_r, andK_t, andK_f, orK_f, orK_t, iteK_t, iteK_f, asgK_nm, asgK_t2, asgK_t3, endF_n, endF_r, slI_i, toBl_b, vw_i, vw_b, vw_t, vw_tI, vw_tT, vw_l, vw_s, vw_n, vw_ty, src_t, src_tI, src_tT, src_l, bin_add, bin_sub, neg_i, not_b, R.bind_assoc, e_isx, e_isv, e_lm, e_rngT1, e_rngT2, e_dget, e_din, e_dict, e_dictZ, e_callC, i_enm, s_app, seeL_l, lmK_l, enmK_t, e_lstC, e_addC, Int.toNat_natCast]
    · obtain ⟨rfl, t1, rfl⟩ := hI
      refine ⟨_, rfl, ?_⟩
      have hi := (List.getElem?_eq_some_iff.mp hx).1
      rw [List.length_range] at hi
      simp only [b_some_numbers_1, e_var, e_cst, e_ty, e_gfn, e_bin, e_cmp, e_chn, e_neg, e_nt, e_one, e_and, e_or, e_ite, e_tup, e_lst, e_idx, e_slc, o_none, o_some, e_call, e_blt, e_isi, a_nil, a_cons, i_of, i_rng, c_none, c_some, s_set, s_setLc, s_asg, s_par, s_stI, s_ex, s_ret, s_if, s_rai, s_pass, b_nil, b_cons, M.opt_some, R.bind_ok, R.bind_exc, getE_0, getE_s, List.map_cons, List.map_nil, List.cons_append, List.nil_append, List.length_cons, List.length_nil, List.replicate_succ, List.replicate_zero, Nat.reduceSub, Nat.reduceAdd, List.set_cons_zero, List.set_cons_succ, Option.map_some, BT.nm, wipeE, seqK_n, seqK_r, andK_t, andK_f, orK_f, orK_t, iteK_t, iteK_f, asgK_nm, asgK_t2, asgK_t3, endF_n, endF_r, slI_i, toBl_b, vw_i, vw_b, vw_t, vw_tI, vw_tT, vw_l, vw_s, vw_n, vw_ty, src_t, src_tI, src_tT, src_l, bin_add, bin_sub, neg_i, not_b, R.bind_assoc, e_isx, e_isv, e_lm, e_rngT1, e_rngT2, e_dget, e_din, e_dict, e_dictZ, e_callC, i_enm, s_app, seeL_l, lmK_l, enmK_t, e_lstC, e_addC]
      rw [lc2F_eq (nums m i) tI ((List.range m).map fun i : Nat => (i : Int)) D.int lastOk (fun r x => tI (r ++ [x])) (by simp only [e_var, e_cst, e_ty, e_gfn, e_bin, e_cmp, e_chn, e_neg, e_nt, e_one, e_and, e_or, e_ite, e_tup, e_lst, e_idx, e_slc, o_none, o_some, e_call, e_blt, e_isi, a_nil, a_cons, i_of, i_rng, c_none, c_some, s_set, s_setLc, s_asg, s_par, s_stI, s_ex, s_ret, s_if, s_rai, s_pass, b_nil, b_cons, M.opt_some, R.bind_ok, R.bind_exc, getE_0, getE_s, List.map_cons, List.map_nil, List.cons_append, List.nil_append, List.length_cons, List.length_nil, List.replicate_succ, List.replicate_zero, Nat.reduceSub, Nat.reduceAdd, List.set_cons_zero, List.set_cons_succ, Option.map_some, BT.nm, wipeE, seqK_n, seqK_r, andK_t, andK_f, orK_f, orK_t, iteK_t, iteK_f, asgK_nm, asgK_t2, asgK_t3, endF_n, endF_r, slI_i, toBl_b, vw_i, vw_b, vw_t, vw_tI, vw_tT, vw_l, vw_s, vw_n, vw_ty, src_t, src_tI, src_tT, src_l, bin_add, bin_sub, neg_i, not_b, R.bind_assoc, e_isx, e_isv, e_lm, e_rngT1, e_rngT2, e_dget, e_din, e_dict, e_dictZ, e_callC, i_enm, s_app, seeL_l, lmK_l, enmK_t, e_lstC, e_addC]) (fun r hr => ⟨_, rfl, by
        simp only [e_var, e_cst, e_ty, e_gfn, e_bin, e_cmp, e_chn, e_neg, e_nt, e_one, e_and, e_or, e_ite, e_tup, e_lst, e_idx, e_slc, o_none, o_some, e_call, e_blt, e_isi, a_nil, a_cons, i_of, i_rng, c_none, c_some, s_set, s_setLc, s_asg, s_par, s_stI, s_ex, s_ret, s_if, s_rai, s_pass, b_nil, b_cons, M.opt_some, R.bind_ok, R.bind_exc, getE_0, getE_s, List.map_cons, List.map_nil, List.cons_append, List.nil_append, List.length_cons, List.length_nil, List.replicate_succ, List.replicate_zero, Nat.reduceSub, Nat.reduceAdd, List.set_cons_zero, List.set_cons_succ, Option.map_some, BT.nm, wipeE, seqK_n, seqK_r, andK_t, andK_f, orK_f, orK_t, iteK_t, iteK_f, asgK_nm, asgK_t2, asgK_t3, endF_n, endF_r, slI_i, toBl_b, vw_i, vw_b, vw_t, vw_tI, vw_tT, vw_l, vw_s, vw_n, vw_ty, src_t, src_tI, src_tT, src_l, bin_add, bin_sub, neg_i, not_b, R.bind_assoc, e_isx, e_isv, e_lm, e_rngT1, e_rngT2, e_dget, e_din, e_dict, e_dictZ, e_callC, i_enm, s_app, seeL_l, lmK_l, enmK_t, e_lstC, e_addC]
        rw [rng_1 (by omega), rangeD_n]
        simp only [e_var, e_cst, e_ty, e_gfn, e_bin, e_cmp, e_chn, e_neg, e_nt, e_one, e_and, e_or, e_ite, e_tup, e_lst, e_idx, e_slc, o_none, o_some, e_call, e_blt, e_isi, a_nil, a_cons, i_of, i_rng, c_none, c_some, s_set, s_setLc, s_asg, s_par, s_stI, s_ex, s_ret, s_if, s_rai, s_pass, b_nil, b_cons, M.opt_some, R.bind_ok, R.bind_exc, getE_0, getE_s, List.map_cons, List.map_nil, List.cons_append, List.nil_append, List.length_cons, List.length_nil, List.replicate_succ, List.replicate_zero, Nat.reduceSub, Nat.reduceAdd, List.set_cons_zero, List.set_cons_succ, Option.map_some, BT.nm, wipeE, seqK_n, seqK_r, andK_t, andK_f, orK_f, orK_t, iteK_t, iteK_f, asgK_nm, asgK_t2, asgK_t3, endF_n, endF_r, slI_i, toBl_b, vw_i, vw_b, vw_t, vw_tI, vw_tT, vw_l, vw_s, vw_n, vw_ty, src_t, src_tI, src_tT, src_l, bin_add, bin_sub, neg_i, not_b, R.bind_assoc, e_isx, e_isv, e_lm, e_rngT1, e_rngT2, e_dget, e_din, e_dict, e_dictZ, e_callC, i_enm, s_app, seeL_l, lmK_l, enmK_t, e_lstC, e_addC, Int.toNat_natCast, List.map_map]
        rfl, fun x hx => ⟨_, rfl, by
          simp only [e_var, e_cst, e_ty, e_gfn, e_bin, e_cmp, e_chn, e_neg, e_nt, e_one, e_and, e_or, e_ite, e_tup, e_lst, e_idx, e_slc, o_none, o_some, e_call, e_blt, e_isi, a_nil, a_cons, i_of, i_rng, c_none, c_some, s_set, s_setLc, s_asg, s_par, s_stI, s_ex, s_ret, s_if, s_rai, s_pass, b_nil, b_cons, M.opt_some, R.bind_ok, R.bind_exc, getE_0, getE_s, List.map_cons, List.map_nil, List.cons_append, List.nil_append, List.length_cons, List.length_nil, List.replicate_succ, List.replicate_zero, Nat.reduceSub, Nat.reduceAdd, List.set_cons_zero, List.set_cons_succ, Option.map_some, BT.nm, wipeE, seqK_n, seqK_r, andK_t, andK_f, orK_f, orK_t, iteK_t, iteK_f, asgK_nm, asgK_t2, asgK_t3, endF_n, endF_r, slI_i, toBl_b, vw_i, vw_b, vw_t, vw_tI, vw_tT, vw_l, vw_s, vw_n, vw_ty, src_t, src_tI, src_tT, src_l, bin_add, bin_sub, neg_i, not_b, R.bind_assoc, e_isx, e_isv, e_lm, e_rngT1, e_rngT2, e_dget, e_din, e_dict, e_dictZ, e_callC, i_enm, s_app, seeL_l, lmK_l, enmK_t, e_lstC, e_addC, ceq_t0]
          by_cases hr0 : r = []
          · subst hr0
            simp only [decide_true, e_var, e_cst, e_ty, e_gfn, e_bin, e_cmp, e_chn, e_neg, e_nt, e_one, e_and, e_or, e_ite, e_tup, e_lst, e_idx, e_slc, o_none, o_some, e_call, e_blt, e_isi, a_nil, a_cons, i_of, i_rng, c_none, c_some, s_set, s_setLc, s_asg, s_par, s_stI, s_ex, s_ret, s_if, s_rai, s_pass, b_nil, b_cons, M.opt_some, R.bind_ok, R.bind_exc, getE_0, getE_s, List.map_cons, List.map_nil, List.cons_append, List.nil_append, List.length_cons, List.length_nil, List.replicate_succ, List.replicate_zero, Nat.reduceSub, Nat.reduceAdd, List.set_cons_zero, List.set_cons_succ, Option.map_some, BT.nm, wipeE, seqK_n, seqK_r, andK_t, andK_f, orK_f, orK_t, iteK_t, iteK_f, asgK_nm, asgK_t2, asgK_t3, endF_n, endF_r, slI_i, toBl_b, vw_i, vw_b, vw_t, vw_tI, vw_tT, vw_l, vw_s, vw_n, vw_ty, src_t, src_tI, src_tT, src_l, bin_add, bin_sub, neg_i, not_b, R.bind_assoc, e_isx, e_isv, e_lm, e_rngT1, e_rngT2, e_dget, e_din, e_dict, e_dictZ, e_callC, i_enm, s_app, seeL_l, lmK_l, enmK_t, e_lstC, e_addC]
            rfl
          · have ea : idxD (tI r) (.int (-1)) = some (.int (r.getLast hr0)) := by
              show atI (r.map D.int) (-1) = _
              rw [atI_last (by simpa using hr0), List.getLast_map]
            simp only [decide_eq_false hr0, e_var, e_cst, e_ty, e_gfn, e_bin, e_cmp, e_chn, e_neg, e_nt, e_one, e_and, e_or, e_ite, e_tup, e_lst, e_idx, e_slc, o_none, o_some, e_call, e_blt, e_isi, a_nil, a_cons, i_of, i_rng, c_none, c_some, s_set, s_setLc, s_asg, s_par, s_stI, s_ex, s_ret, s_if, s_rai, s_pass, b_nil, b_cons, M.opt_some, R.bind_ok, R.bind_exc, getE_0, getE_s, List.map_cons, List.map_nil, List.cons_append, List.nil_append, List.length_cons, List.length_nil, List.replicate_succ, List.replicate_zero, Nat.reduceSub, Nat.reduceAdd, List.set_cons_zero, List.set_cons_succ, Option.map_some, BT.nm, wipeE, seqK_n, seqK_r, andK_t, andK_f, orK_f, orK_t, iteK_t, iteK_f, asgK_nm, asgK_t2, asgK_t3, endF_n, endF_r, slI_i, toBl_b, vw_i, vw_b, vw_t, vw_tI, vw_tT, vw_l, vw_s, vw_n, vw_ty, src_t, src_tI, src_tT, src_l, bin_add, bin_sub, neg_i, not_b, R.bind_assoc, e_isx, e_isv, e_lm, e_rngT1, e_rngT2, e_dget, e_din, e_dict, e_dictZ, e_callC, i_enm, s_app, seeL_l, lmK_l, enmK_t, e_lstC, e_addC, ea, cmp_lt, lastOk_ne hr0], fun _ => by
          have hl := (mem_nums.mp hr).1
          have hb : (r.map D.int).length + [D.int x].length ≤ line := by
            rw [List.length_map]
            show r.length + 1 ≤ 16777216
            omega
          simp only [e_var, e_cst, e_ty, e_gfn, e_bin, e_cmp, e_chn, e_neg, e_nt, e_one, e_and, e_or, e_ite, e_tup, e_lst, e_idx, e_slc, o_none, o_some, e_call, e_blt, e_isi, a_nil, a_cons, i_of, i_rng, c_none, c_some, s_set, s_setLc, s_asg, s_par, s_stI, s_ex, s_ret, s_if, s_rai, s_pass, b_nil, b_cons, M.opt_some, R.bind_ok, R.bind_exc, getE_0, getE_s, List.map_cons, List.map_nil, List.cons_append, List.nil_append, List.length_cons, List.length_nil, List.replicate_succ, List.replicate_zero, Nat.reduceSub, Nat.reduceAdd, List.set_cons_zero, List.set_cons_succ, Option.map_some, BT.nm, wipeE, seqK_n, seqK_r, andK_t, andK_f, orK_f, orK_t, iteK_t, iteK_f, asgK_nm, asgK_t2, asgK_t3, endF_n, endF_r, slI_i, toBl_b, vw_i, vw_b, vw_t, vw_tI, vw_tT, vw_l, vw_s, vw_n, vw_ty, src_t, src_tI, src_tT, src_l, bin_add, bin_sub, neg_i, not_b, R.bind_assoc, e_isx, e_isv, e_lm, e_rngT1, e_rngT2, e_dget, e_din, e_dict, e_dictZ, e_callC, i_enm, s_app, seeL_l, lmK_l, enmK_t, e_lstC, e_addC, tI]
          rw [bin_addT hb]
          simp [tI]⟩⟩) (by
          have := nums_len (m := m) (t := i) hm (by omega)
          rw [List.length_map, List.length_range]
          show (nums m i).length * m < 16777216
          have := Nat.mul_le_mul this hm
          omega)]
      simp only [e_var, e_cst, e_ty, e_gfn, e_bin, e_cmp, e_chn, e_neg, e_nt, e_one, e_and, e_or, e_ite, e_tup, e_lst, e_idx, e_slc, o_none, o_some, e_call, e_blt, e_isi, a_nil, a_cons, i_of, i_rng, c_none, c_some, s_set, s_setLc, s_asg, s_par, s_stI, s_ex, s_ret, s_if, s_rai, s_pass, b_nil, b_cons, M.opt_some, R.bind_ok, R.bind_exc, getE_0, getE_s, List.map_cons, List.map_nil, List.cons_append, List.nil_append, List.length_cons, List.length_nil, List.replicate_succ, List.replicate_zero, Nat.reduceSub, Nat.reduceAdd, List.set_cons_zero, List.set_cons_succ, Option.map_some, BT.nm, wipeE, seqK_n, seqK_r, andK_t, andK_f, orK_f, orK_t, iteK_t, iteK_f, asgK_nm, asgK_t2, asgK_t3, endF_n, endF_r, slI_i, toBl_b, vw_i, vw_b, vw_t, vw_tI, vw_tT, vw_l, vw_s, vw_n, vw_ty, src_t, src_tI, src_tT, src_l, bin_add, bin_sub, neg_i, not_b, R.bind_assoc, e_isx, e_isv, e_lm, e_rngT1, e_rngT2, e_dget, e_din, e_dict, e_dictZ, e_callC, i_enm, s_app, seeL_l, lmK_l, enmK_t, e_lstC, e_addC]
      refine ⟨_, rfl, rfl, some (.int (a : Int)), ?_⟩
      have e : ((nums m i).flatMap fun r => (((List.range m).map fun i : Nat => (i : Int)).filter (lastOk r)).map fun x => tI (r ++ [x])) = (nums m (i + 1)).map tI := by
        show _ = ((nums m i).flatMap _).map tI
        rw [List.map_flatMap]
        refine congrArg (fun f => List.flatMap f (nums m i)) (funext fun r => ?_)
        rw [List.map_map]
        rfl
      rw [← e]
  obtain ⟨fl, S', e, ρ', rfl, rfl, t1, rfl⟩ := h1.get
  simp only [b_some_numbers, e_var, e_cst, e_ty, e_gfn, e_bin, e_cmp, e_chn, e_neg, e_nt, e_one, e_and, e_or, e_ite, e_tup, e_lst, e_idx, e_slc, o_none, o_some, e_call, e_blt, e_isi, a_nil, a_cons, i_of, i_rng, c_none, c_some, s_set, s_setLc, s_asg, s_par, s_stI, s_ex, s_ret, s_if, s_rai, s_pass, b_nil, b_cons, M.opt_some, R.bind_ok, R.bind_exc, getE_0, getE_s, List.map_cons, List.map_nil, List.cons_append, List.nil_append, List.length_cons, List.length_nil, List.replicate_succ, List.replicate_zero, Nat.reduceSub, Nat.reduceAdd, List.set_cons_zero, List.set_cons_succ, Option.map_some, BT.nm, wipeE, seqK_n, seqK_r, andK_t, andK_f, orK_f, orK_t, iteK_t, iteK_f, asgK_nm, asgK_t2, asgK_t3, endF_n, endF_r, slI_i, toBl_b, vw_i, vw_b, vw_t, vw_tI, vw_tT, vw_l, vw_s, vw_n, vw_ty, src_t, src_tI, src_tT, src_l, bin_add, bin_sub, neg_i, not_b, R.bind_assoc, e_isx, e_isv, e_lm, e_rngT1, e_rngT2, e_dget, e_din, e_dict, e_dictZ, e_callC, i_enm, s_app, seeL_l, lmK_l, enmK_t, e_lstC, e_addC]
  rw [e]
  simp only [e_var, e_cst, e_ty, e_gfn, e_bin, e_cmp, e_chn, e_neg, e_nt, e_one, e_and, e_or, e_ite, e_tup, e_lst, e_idx, e_slc, o_none, o_some, e_call, e_blt, e_isi, a_nil, a_cons, i_of, i_rng, c_none, c_some, s_set, s_setLc, s_asg, s_par, s_stI, s_ex, s_ret, s_if, s_rai, s_pass, b_nil, b_cons, M.opt_some, R.bind_ok, R.bind_exc, getE_0, getE_s, List.map_cons, List.map_nil, List.cons_append, List.nil_append, List.length_cons, List.length_nil, List.replicate_succ, List.replicate_zero, Nat.reduceSub, Nat.reduceAdd, List.set_cons_zero, List.set_cons_succ, Option.map_some, BT.nm, wipeE, seqK_n, seqK_r, andK_t, andK_f, orK_f, orK_t, iteK_t, iteK_f, asgK_nm, asgK_t2, asgK_t3, endF_n, endF_r, slI_i, toBl_b, vw_i, vw_b, vw_t, vw_tI, vw_tT, vw_l, vw_s, vw_n, vw_ty, src_t, src_tI, src_tT, src_l, bin_add, bin_sub, neg_i, not_b, R.bind_assoc, e_isx, e_isv, e_lm, e_rngT1, e_rngT2, e_dget, e_din, e_dict, e_dictZ, e_callC, i_enm, s_app, seeL_l, lmK_l, enmK_t, e_lstC, e_addC, List.length_range]
theorem r_lotv (h : HasW fs) (F : FamOk n ss) (hL : lotOk n L) : Ok (runF fs (k + 4) "found_lot_uneven" [fam n ss, tI L] S) (.int (lwv L ss)) S := by
  obtain ⟨d, hd, S1, e, g⟩ := r_found_within (k := k + 2) (S := S) h.fwi F hL
  rw [rf_eq h.flu]
  simp only [b_found_lot_uneven, e_var, e_cst, e_ty, e_gfn, e_bin, e_cmp, e_chn, e_neg, e_nt, e_one, e_and, e_or, e_ite, e_tup, e_lst, e_idx, e_slc, o_none, o_some, e_call, e_blt, e_isi, a_nil, a_cons, i_of, i_rng, c_none, c_some, s_set, s_setLc, s_asg, s_par, s_stI, s_ex, s_ret, s_if, s_rai, s_pass, b_nil, b_cons, M.opt_some, R.bind_ok, R.bind_exc, getE_0, getE_s, List.map_cons, List.map_nil, List.cons_append, List.nil_append, List.length_cons, List.length_nil, List.replicate_succ, List.replicate_zero, Nat.reduceSub, Nat.reduceAdd, List.set_cons_zero, List.set_cons_succ, Option.map_some, BT.nm, wipeE, seqK_n, seqK_r, andK_t, andK_f, orK_f, orK_t, iteK_t, iteK_f, asgK_nm, asgK_t2, asgK_t3, endF_n, endF_r, slI_i, toBl_b, vw_i, vw_b, vw_t, vw_tI, vw_tT, vw_l, vw_s, vw_n, vw_ty, src_t, src_tI, src_tT, src_l, bin_add, bin_sub, neg_i, not_b, R.bind_assoc, e_isx, e_isv, e_lm, e_rngT1, e_rngT2, e_dget, e_din, e_dict, e_dictZ, e_callC, i_enm, s_app, seeL_l, lmK_l, enmK_t, e_lstC, e_addC]
  rw [e]
  rcases hd with ⟨rfl, h0⟩ | ⟨zs, rfl, F2, hW⟩
  · rw [lwv_none F.ne h0]
    simp only [e_var, e_cst, e_ty, e_gfn, e_bin, e_cmp, e_chn, e_neg, e_nt, e_one, e_and, e_or, e_ite, e_tup, e_lst, e_idx, e_slc, o_none, o_some, e_call, e_blt, e_isi, a_nil, a_cons, i_of, i_rng, c_none, c_some, s_set, s_setLc, s_asg, s_par, s_stI, s_ex, s_ret, s_if, s_rai, s_pass, b_nil, b_cons, M.opt_some, R.bind_ok, R.bind_exc, getE_0, getE_s, List.map_cons, List.map_nil, List.cons_append, List.nil_append, List.length_cons, List.length_nil, List.replicate_succ, List.replicate_zero, Nat.reduceSub, Nat.reduceAdd, List.set_cons_zero, List.set_cons_succ, Option.map_some, BT.nm, wipeE, seqK_n, seqK_r, andK_t, andK_f, orK_f, orK_t, iteK_t, iteK_f, asgK_nm, asgK_t2, asgK_t3, endF_n, endF_r, slI_i, toBl_b, vw_i, vw_b, vw_t, vw_tI, vw_tT, vw_l, vw_s, vw_n, vw_ty, src_t, src_tI, src_tT, src_l, bin_add, bin_sub, neg_i, not_b, R.bind_assoc, e_isx, e_isv, e_lm, e_rngT1, e_rngT2, e_dget, e_din, e_dict, e_dictZ, e_callC, i_enm, s_app, seeL_l, lmK_l, enmK_t, e_lstC, e_addC, show cmpB .Is .non .non = some (.bl true) from rfl]
    exact ⟨S1, rfl, g⟩
  · rw [lwv_some hW F2.ne]
    have ev : vw S1 (fam L.length zs) = fam L.length zs := rfl
    simp only [e_var, e_cst, e_ty, e_gfn, e_bin, e_cmp, e_chn, e_neg, e_nt, e_one, e_and, e_or, e_ite, e_tup, e_lst, e_idx, e_slc, o_none, o_some, e_call, e_blt, e_isi, a_nil, a_cons, i_of, i_rng, c_none, c_some, s_set, s_setLc, s_asg, s_par, s_stI, s_ex, s_ret, s_if, s_rai, s_pass, b_nil, b_cons, M.opt_some, R.bind_ok, R.bind_exc, getE_0, getE_s, List.map_cons, List.map_nil, List.cons_append, List.nil_append, List.length_cons, List.length_nil, List.replicate_succ, List.replicate_zero, Nat.reduceSub, Nat.reduceAdd, List.set_cons_zero, List.set_cons_succ, Option.map_some, BT.nm, wipeE, seqK_n, seqK_r, andK_t, andK_f, orK_f, orK_t, iteK_t, iteK_f, asgK_nm, asgK_t2, asgK_t3, endF_n, endF_r, slI_i, toBl_b, vw_i, vw_b, vw_t, vw_tI, vw_tT, vw_l, vw_s, vw_n, vw_ty, src_t, src_tI, src_tT, src_l, bin_add, bin_sub, neg_i, not_b, R.bind_assoc, e_isx, e_isv, e_lm, e_rngT1, e_rngT2, e_dget, e_din, e_dict, e_dictZ, e_callC, i_enm, s_app, seeL_l, lmK_l, enmK_t, e_lstC, e_addC, ev, show cmpB .Is (fam L.length zs) .non = some (.bl false) from rfl]
    rw [r_least h.toHasC F2]
    simp only [e_var, e_cst, e_ty, e_gfn, e_bin, e_cmp, e_chn, e_neg, e_nt, e_one, e_and, e_or, e_ite, e_tup, e_lst, e_idx, e_slc, o_none, o_some, e_call, e_blt, e_isi, a_nil, a_cons, i_of, i_rng, c_none, c_some, s_set, s_setLc, s_asg, s_par, s_stI, s_ex, s_ret, s_if, s_rai, s_pass, b_nil, b_cons, M.opt_some, R.bind_ok, R.bind_exc, getE_0, getE_s, List.map_cons, List.map_nil, List.cons_append, List.nil_append, List.length_cons, List.length_nil, List.replicate_succ, List.replicate_zero, Nat.reduceSub, Nat.reduceAdd, List.set_cons_zero, List.set_cons_succ, Option.map_some, BT.nm, wipeE, seqK_n, seqK_r, andK_t, andK_f, orK_f, orK_t, iteK_t, iteK_f, asgK_nm, asgK_t2, asgK_t3, endF_n, endF_r, slI_i, toBl_b, vw_i, vw_b, vw_t, vw_tI, vw_tT, vw_l, vw_s, vw_n, vw_ty, src_t, src_tI, src_tT, src_l, bin_add, bin_sub, neg_i, not_b, R.bind_assoc, e_isx, e_isv, e_lm, e_rngT1, e_rngT2, e_dget, e_din, e_dict, e_dictZ, e_callC, i_enm, s_app, seeL_l, lmK_l, enmK_t, e_lstC, e_addC, Int.toNat_natCast]
    exact ⟨S1, rfl, g⟩
theorem r_lot_uneven (h : HasW fs) (hl : fs "lot_uneven" = some ⟨2, 2, b_lot_uneven⟩) (F : FamOk n ss) (hL : lotOk n L) : Ok (runF fs (k + 5) "lot_uneven" [fam n ss, tI L] S) (.int (lwv L ss)) S := by
  obtain ⟨S1, e, g⟩ := r_lotv (k := k) (S := S) h F hL
  refine ⟨S1, ?_, g⟩
  rw [rf_eq hl]
  simp only [b_lot_uneven, e_var, e_cst, e_ty, e_gfn, e_bin, e_cmp, e_chn, e_neg, e_nt, e_one, e_and, e_or, e_ite, e_tup, e_lst, e_idx, e_slc, o_none, o_some, e_call, e_blt, e_isi, a_nil, a_cons, i_of, i_rng, c_none, c_some, s_set, s_setLc, s_asg, s_par, s_stI, s_ex, s_ret, s_if, s_rai, s_pass, b_nil, b_cons, M.opt_some, R.bind_ok, R.bind_exc, getE_0, getE_s, List.map_cons, List.map_nil, List.cons_append, List.nil_append, List.length_cons, List.length_nil, List.replicate_succ, List.replicate_zero, Nat.reduceSub, Nat.reduceAdd, List.set_cons_zero, List.set_cons_succ, Option.map_some, BT.nm, wipeE, seqK_n, seqK_r, andK_t, andK_f, orK_f, orK_t, iteK_t, iteK_f, asgK_nm, asgK_t2, asgK_t3, endF_n, endF_r, slI_i, toBl_b, vw_i, vw_b, vw_t, vw_tI, vw_tT, vw_l, vw_s, vw_n, vw_ty, src_t, src_tI, src_tT, src_l, bin_add, bin_sub, neg_i, not_b, R.bind_assoc, e_isx, e_isv, e_lm, e_rngT1, e_rngT2, e_dget, e_din, e_dict, e_dictZ, e_callC, i_enm, s_app, seeL_l, lmK_l, enmK_t, e_lstC, e_addC]
  rw [r_check_family h.toHasF F]
  simp only [e_var, e_cst, e_ty, e_gfn, e_bin, e_cmp, e_chn, e_neg, e_nt, e_one, e_and, e_or, e_ite, e_tup, e_lst, e_idx, e_slc, o_none, o_some, e_call, e_blt, e_isi, a_nil, a_cons, i_of, i_rng, c_none, c_some, s_set, s_setLc, s_asg, s_par, s_stI, s_ex, s_ret, s_if, s_rai, s_pass, b_nil, b_cons, M.opt_some, R.bind_ok, R.bind_exc, getE_0, getE_s, List.map_cons, List.map_nil, List.cons_append, List.nil_append, List.length_cons, List.length_nil, List.replicate_succ, List.replicate_zero, Nat.reduceSub, Nat.reduceAdd, List.set_cons_zero, List.set_cons_succ, Option.map_some, BT.nm, wipeE, seqK_n, seqK_r, andK_t, andK_f, orK_f, orK_t, iteK_t, iteK_f, asgK_nm, asgK_t2, asgK_t3, endF_n, endF_r, slI_i, toBl_b, vw_i, vw_b, vw_t, vw_tI, vw_tT, vw_l, vw_s, vw_n, vw_ty, src_t, src_tI, src_tT, src_l, bin_add, bin_sub, neg_i, not_b, R.bind_assoc, e_isx, e_isv, e_lm, e_rngT1, e_rngT2, e_dget, e_din, e_dict, e_dictZ, e_callC, i_enm, s_app, seeL_l, lmK_l, enmK_t, e_lstC, e_addC]
  rw [r_check_lot h.toHasF h.chl F.hi hL]
  simp only [e_var, e_cst, e_ty, e_gfn, e_bin, e_cmp, e_chn, e_neg, e_nt, e_one, e_and, e_or, e_ite, e_tup, e_lst, e_idx, e_slc, o_none, o_some, e_call, e_blt, e_isi, a_nil, a_cons, i_of, i_rng, c_none, c_some, s_set, s_setLc, s_asg, s_par, s_stI, s_ex, s_ret, s_if, s_rai, s_pass, b_nil, b_cons, M.opt_some, R.bind_ok, R.bind_exc, getE_0, getE_s, List.map_cons, List.map_nil, List.cons_append, List.nil_append, List.length_cons, List.length_nil, List.replicate_succ, List.replicate_zero, Nat.reduceSub, Nat.reduceAdd, List.set_cons_zero, List.set_cons_succ, Option.map_some, BT.nm, wipeE, seqK_n, seqK_r, andK_t, andK_f, orK_f, orK_t, iteK_t, iteK_f, asgK_nm, asgK_t2, asgK_t3, endF_n, endF_r, slI_i, toBl_b, vw_i, vw_b, vw_t, vw_tI, vw_tT, vw_l, vw_s, vw_n, vw_ty, src_t, src_tI, src_tT, src_l, bin_add, bin_sub, neg_i, not_b, R.bind_assoc, e_isx, e_isv, e_lm, e_rngT1, e_rngT2, e_dget, e_din, e_dict, e_dictZ, e_callC, i_enm, s_app, seeL_l, lmK_l, enmK_t, e_lstC, e_addC]
  rw [e]
  simp only [e_var, e_cst, e_ty, e_gfn, e_bin, e_cmp, e_chn, e_neg, e_nt, e_one, e_and, e_or, e_ite, e_tup, e_lst, e_idx, e_slc, o_none, o_some, e_call, e_blt, e_isi, a_nil, a_cons, i_of, i_rng, c_none, c_some, s_set, s_setLc, s_asg, s_par, s_stI, s_ex, s_ret, s_if, s_rai, s_pass, b_nil, b_cons, M.opt_some, R.bind_ok, R.bind_exc, getE_0, getE_s, List.map_cons, List.map_nil, List.cons_append, List.nil_append, List.length_cons, List.length_nil, List.replicate_succ, List.replicate_zero, Nat.reduceSub, Nat.reduceAdd, List.set_cons_zero, List.set_cons_succ, Option.map_some, BT.nm, wipeE, seqK_n, seqK_r, andK_t, andK_f, orK_f, orK_t, iteK_t, iteK_f, asgK_nm, asgK_t2, asgK_t3, endF_n, endF_r, slI_i, toBl_b, vw_i, vw_b, vw_t, vw_tI, vw_tT, vw_l, vw_s, vw_n, vw_ty, src_t, src_tI, src_tT, src_l, bin_add, bin_sub, neg_i, not_b, R.bind_assoc, e_isx, e_isv, e_lm, e_rngT1, e_rngT2, e_dget, e_din, e_dict, e_dictZ, e_callC, i_enm, s_app, seeL_l, lmK_l, enmK_t, e_lstC, e_addC]
def optT : Option (List Int) → D
  | none => .non
  | some L => tI L
theorem scan_append (f : List Int → Int) (l l' : List (List Int)) : scan f (l ++ l') = l'.foldl (fun a L => if a.1 < f L then (f L, some L) else a) (scan f l) := by
  unfold scan
  rw [List.foldl_append]
theorem r_worst (h : HasW fs) (F : FamOk n ss) : Ok (runF fs (k + 5) "worst_lot" [fam n ss] S) (.tup [.int (worstV n.toNat ss), tI (worstL n.toNat ss)]) S := by
  have hlo := F.lo
  have hhi := F.hi
  have hn : (n.toNat : Int) = n := by omega
  have key : Wp (exS (runF fs (k + 4)) (.for_ (.rng (.cons (.cst (.int 1)) (.cons (.bin .Add (.idx (.var 0) (.cst (.int 0))) (.cst (.int 1))) .nil))) (.nm 3) b_worst_lot_2) [some (fam n ss), some (.int (-1)), some .non, none, none, none] S)
      (fun fl S' => ∃ ρ', fl = .nx ρ' ∧ Gr S S' ∧ ∃ t1 t2 t3 : Option D, ρ' = [some (fam n ss), some (.int (scan (fun L => lwv L ss) ((List.range (List.range n.toNat).length).flatMap fun i => nums n.toNat (i + 1))).1), some (optT (scan (fun L => lwv L ss) ((List.range (List.range n.toNat).length).flatMap fun i => nums n.toNat (i + 1))).2), t1, t2, t3]) := by
    refine wpFn (S1 := S) (List.range n.toNat) (fun i : Nat => D.int (1 + (i : Int))) ?_ (fun i ρ' S' => Gr S S' ∧ ∃ t1 t2 t3 : Option D, ρ' = [some (fam n ss), some (.int (scan (fun L => lwv L ss) ((List.range i).flatMap fun i => nums n.toNat (i + 1))).1), some (optT (scan (fun L => lwv L ss) ((List.range i).flatMap fun i => nums n.toNat (i + 1))).2), t1, t2, t3]) ⟨Gr.refl S, none, none, none, rfl⟩ (fun i a ρ' S' hx hI => ?_)
    · simp only [e_var, e_cst, e_ty, e_gfn, e_bin, e_cmp, e_chn, e_neg, e_nt, e_one, e_and, e_or, e_ite, e_tup, e_lst, e_idx, e_slc, o_none, o_some, e_call, e_blt, e_isi, a_nil, a_cons, i_of, i_rng, c_none, c_some, s_set, s_setLc, s_asg, s_par, s_stI, s_ex, s_ret, s_if, s_rai, s_pass, b_nil, b_cons, M.opt_some, R.bind_ok, R.bind_exc, getE_0, getE_s, List.map_cons, List.map_nil, List.cons_append, List.nil_append, List.length_cons, List.length_nil, List.replicate_succ, List.replicate_zero, Nat.reduceSub, Nat.reduceAdd, List.set_cons_zero, List.set_cons_succ, Option.map_some, BT.nm, wipeE, seqK_n, seqK_r, andK_t, andK_f, orK_f, orK_t, iteK_t, iteK_f, asgK_nm, asgK_t2, asgK_t3, endF_n, endF_r, slI_i, toBl_b, vw_i, vw_b, vw_t, vw_tI, vw_tT, vw_l, vw_s, vw_n, vw_ty, src_t, src_tI, src_tT, src_l, bin_add, bin_sub, neg_i, not_b, R.bind_assoc, e_isx, e_isv, e_lm, e_rngT1, e_rngT2, e_dget, e_din, e_dict, e_dictZ, e_callC, i_enm, s_app, seeL_l, lmK_l, enmK_t, e_lstC, e_addC, fam, idx_t, atI_0]
      rw [rng_2 (by omega)]
      simp only [e_var, e_cst, e_ty, e_gfn, e_bin, e_cmp, e_chn, e_neg, e_nt, e_one, e_and, e_or, e_ite, e_tup, e_lst, e_idx, e_slc, o_none, o_some, e_call, e_blt, e_isi, a_nil, a_cons, i_of, i_rng, c_none, c_some, s_set, s_setLc, s_asg, s_par, s_stI, s_ex, s_ret, s_if, s_rai, s_pass, b_nil, b_cons, M.opt_some, R.bind_ok, R.bind_exc, getE_0, getE_s, List.map_cons, List.map_nil, List.cons_append, List.nil_append, List.length_cons, List.length_nil, List.replicate_succ, List.replicate_zero, Nat.reduceSub, Nat.reduceAdd, List.set_cons_zero, List.set_cons_succ, Option.map_some, BT.nm, wipeE, seqK_n, seqK_r, andK_t, andK_f, orK_f, orK_t, iteK_t, iteK_f, asgK_nm, asgK_t2, asgK_t3, endF_n, endF_r, slI_i, toBl_b, vw_i, vw_b, vw_t, vw_tI, vw_tT, vw_l, vw_s, vw_n, vw_ty, src_t, src_tI, src_tT, src_l, bin_add, bin_sub, neg_i, not_b, R.bind_assoc, e_isx, e_isv, e_lm, e_rngT1, e_rngT2, e_dget, e_din, e_dict, e_dictZ, e_callC, i_enm, s_app, seeL_l, lmK_l, enmK_t, e_lstC, e_addC, show (n + 1 - 1).toNat = n.toNat by omega]
      rfl
    · obtain ⟨hG, t1, t2, t3, rfl⟩ := hI
      have hi := (List.getElem?_eq_some_iff.mp hx).1
      have ha : a = i := by
        rw [List.getElem?_range (by simpa using hi)] at hx
        cases hx
        rfl
      subst ha
      rw [List.length_range] at hi
      refine ⟨_, rfl, ?_⟩
      have inner : Wp (exS (runF fs (k + 4)) (.for_ (.of (.call "some_numbers" (.cons (.idx (.var 0) (.cst (.int 0))) (.cons (.var 3) .nil)))) (.nm 4) b_worst_lot_1) [some (fam n ss), some (.int (scan (fun L => lwv L ss) ((List.range a).flatMap fun i => nums n.toNat (i + 1))).1), some (optT (scan (fun L => lwv L ss) ((List.range a).flatMap fun i => nums n.toNat (i + 1))).2), some (.int (1 + (a : Int))), t2, t3] S')
          (fun fl S2 => ∃ ρ', fl = .nx ρ' ∧ Gr S S2 ∧ ∃ t2 t3 : Option D, ρ' = [some (fam n ss), some (.int (scan (fun L => lwv L ss) (((List.range a).flatMap fun i => nums n.toNat (i + 1)) ++ (nums n.toNat (a + 1)).take (nums n.toNat (a + 1)).length)).1), some (optT (scan (fun L => lwv L ss) (((List.range a).flatMap fun i => nums n.toNat (i + 1)) ++ (nums n.toNat (a + 1)).take (nums n.toNat (a + 1)).length)).2), some (.int (1 + (a : Int))), t2, t3]) := by
        refine wpFn (S1 := S') (nums n.toNat (a + 1)) tI ?_ (fun j ρ' S2 => Gr S S2 ∧ ∃ t2 t3 : Option D, ρ' = [some (fam n ss), some (.int (scan (fun L => lwv L ss) (((List.range a).flatMap fun i => nums n.toNat (i + 1)) ++ (nums n.toNat (a + 1)).take j)).1), some (optT (scan (fun L => lwv L ss) (((List.range a).flatMap fun i => nums n.toNat (i + 1)) ++ (nums n.toNat (a + 1)).take j)).2), some (.int (1 + (a : Int))), t2, t3]) ⟨hG, t2, t3, by simp⟩ (fun j L ρ' S2 hx hI => ?_)
        · have e := r_nums (k := k + 3) (S := S') h.som (m := n.toNat) (t := a + 1) (by omega) (by omega)
          rw [hn, show ((a + 1 : Nat) : Int) = 1 + (a : Int) by omega] at e
          simp only [e_var, e_cst, e_ty, e_gfn, e_bin, e_cmp, e_chn, e_neg, e_nt, e_one, e_and, e_or, e_ite, e_tup, e_lst, e_idx, e_slc, o_none, o_some, e_call, e_blt, e_isi, a_nil, a_cons, i_of, i_rng, c_none, c_some, s_set, s_setLc, s_asg, s_par, s_stI, s_ex, s_ret, s_if, s_rai, s_pass, b_nil, b_cons, M.opt_some, R.bind_ok, R.bind_exc, getE_0, getE_s, List.map_cons, List.map_nil, List.cons_append, List.nil_append, List.length_cons, List.length_nil, List.replicate_succ, List.replicate_zero, Nat.reduceSub, Nat.reduceAdd, List.set_cons_zero, List.set_cons_succ, Option.map_some, BT.nm, wipeE, seqK_n, seqK_r, andK_t, andK_f, orK_f, orK_t, iteK_t, iteK_f, asgK_nm, asgK_t2, asgK_t3, endF_n, endF_r, slI_i, toBl_b, vw_i, vw_b, vw_t, vw_tI, vw_tT, vw_l, vw_s, vw_n, vw_ty, src_t, src_tI, src_tT, src_l, bin_add, bin_sub, neg_i, not_b, R.bind_assoc, e_isx, e_isv, e_lm, e_rngT1, e_rngT2, e_dget, e_din, e_dict, e_dictZ, e_callC, i_enm, s_app, seeL_l, lmK_l, enmK_t, e_lstC, e_addC, fam, idx_t, atI_0, e]
        · obtain ⟨hG2, t2, t3, rfl⟩ := hI
          refine ⟨_, rfl, ?_⟩
          have hL : lotOk n L := by
            obtain ⟨l1, l2, l3⟩ := mem_nums.mp (List.mem_of_getElem? hx)
            refine ⟨by rintro rfl; simp at l1, fun x hx => ?_, l2⟩
            have := l3 x hx
            omega
          have et : (nums n.toNat (a + 1)).take (j + 1) = (nums n.toNat (a + 1)).take j ++ [L] := by rw [List.take_add_one, hx]; rfl
          simp only [b_worst_lot_1, e_var, e_cst, e_ty, e_gfn, e_bin, e_cmp, e_chn, e_neg, e_nt, e_one, e_and, e_or, e_ite, e_tup, e_lst, e_idx, e_slc, o_none, o_some, e_call, e_blt, e_isi, a_nil, a_cons, i_of, i_rng, c_none, c_some, s_set, s_setLc, s_asg, s_par, s_stI, s_ex, s_ret, s_if, s_rai, s_pass, b_nil, b_cons, M.opt_some, R.bind_ok, R.bind_exc, getE_0, getE_s, List.map_cons, List.map_nil, List.cons_append, List.nil_append, List.length_cons, List.length_nil, List.replicate_succ, List.replicate_zero, Nat.reduceSub, Nat.reduceAdd, List.set_cons_zero, List.set_cons_succ, Option.map_some, BT.nm, wipeE, seqK_n, seqK_r, andK_t, andK_f, orK_f, orK_t, iteK_t, iteK_f, asgK_nm, asgK_t2, asgK_t3, endF_n, endF_r, slI_i, toBl_b, vw_i, vw_b, vw_t, vw_tI, vw_tT, vw_l, vw_s, vw_n, vw_ty, src_t, src_tI, src_tT, src_l, bin_add, bin_sub, neg_i, not_b, R.bind_assoc, e_isx, e_isv, e_lm, e_rngT1, e_rngT2, e_dget, e_din, e_dict, e_dictZ, e_callC, i_enm, s_app, seeL_l, lmK_l, enmK_t, e_lstC, e_addC]
          obtain ⟨S3, e3, g3⟩ := r_lotv (k := k) (S := S2) h F hL
          rw [e3]
          simp only [e_var, e_cst, e_ty, e_gfn, e_bin, e_cmp, e_chn, e_neg, e_nt, e_one, e_and, e_or, e_ite, e_tup, e_lst, e_idx, e_slc, o_none, o_some, e_call, e_blt, e_isi, a_nil, a_cons, i_of, i_rng, c_none, c_some, s_set, s_setLc, s_asg, s_par, s_stI, s_ex, s_ret, s_if, s_rai, s_pass, b_nil, b_cons, M.opt_some, R.bind_ok, R.bind_exc, getE_0, getE_s, List.map_cons, List.map_nil, List.cons_append, List.nil_append, List.length_cons, List.length_nil, List.replicate_succ, List.replicate_zero, Nat.reduceSub, Nat.reduceAdd, List.set_cons_zero, List.set_cons_succ, Option.map_some, BT.nm, wipeE, seqK_n, seqK_r, andK_t, andK_f, orK_f, orK_t, iteK_t, iteK_f, asgK_nm, asgK_t2, asgK_t3, endF_n, endF_r, slI_i, toBl_b, vw_i, vw_b, vw_t, vw_tI, vw_tT, vw_l, vw_s, vw_n, vw_ty, src_t, src_tI, src_tT, src_l, bin_add, bin_sub, neg_i, not_b, R.bind_assoc, e_isx, e_isv, e_lm, e_rngT1, e_rngT2, e_dget, e_din, e_dict, e_dictZ, e_callC, i_enm, s_app, seeL_l, lmK_l, enmK_t, e_lstC, e_addC, cmp_gt]
          rw [et, ← List.append_assoc, scan_snoc]
          by_cases hlt : (scan (fun L => lwv L ss) (((List.range a).flatMap fun i => nums n.toNat (i + 1)) ++ (nums n.toNat (a + 1)).take j)).1 < lwv L ss
          · simp only [decide_eq_true hlt, e_var, e_cst, e_ty, e_gfn, e_bin, e_cmp, e_chn, e_neg, e_nt, e_one, e_and, e_or, e_ite, e_tup, e_lst, e_idx, e_slc, o_none, o_some, e_call, e_blt, e_isi, a_nil, a_cons, i_of, i_rng, c_none, c_some, s_set, s_setLc, s_asg, s_par, s_stI, s_ex, s_ret, s_if, s_rai, s_pass, b_nil, b_cons, M.opt_some, R.bind_ok, R.bind_exc, getE_0, getE_s, List.map_cons, List.map_nil, List.cons_append, List.nil_append, List.length_cons, List.length_nil, List.replicate_succ, List.replicate_zero, Nat.reduceSub, Nat.reduceAdd, List.set_cons_zero, List.set_cons_succ, Option.map_some, BT.nm, wipeE, seqK_n, seqK_r, andK_t, andK_f, orK_f, orK_t, iteK_t, iteK_f, asgK_nm, asgK_t2, asgK_t3, endF_n, endF_r, slI_i, toBl_b, vw_i, vw_b, vw_t, vw_tI, vw_tT, vw_l, vw_s, vw_n, vw_ty, src_t, src_tI, src_tT, src_l, bin_add, bin_sub, neg_i, not_b, R.bind_assoc, e_isx, e_isv, e_lm, e_rngT1, e_rngT2, e_dget, e_din, e_dict, e_dictZ, e_callC, i_enm, s_app, seeL_l, lmK_l, enmK_t, e_lstC, e_addC, if_pos hlt]
            exact ⟨_, rfl, hG2.trans g3, _, _, rfl⟩
          · simp only [decide_eq_false hlt, e_var, e_cst, e_ty, e_gfn, e_bin, e_cmp, e_chn, e_neg, e_nt, e_one, e_and, e_or, e_ite, e_tup, e_lst, e_idx, e_slc, o_none, o_some, e_call, e_blt, e_isi, a_nil, a_cons, i_of, i_rng, c_none, c_some, s_set, s_setLc, s_asg, s_par, s_stI, s_ex, s_ret, s_if, s_rai, s_pass, b_nil, b_cons, M.opt_some, R.bind_ok, R.bind_exc, getE_0, getE_s, List.map_cons, List.map_nil, List.cons_append, List.nil_append, List.length_cons, List.length_nil, List.replicate_succ, List.replicate_zero, Nat.reduceSub, Nat.reduceAdd, List.set_cons_zero, List.set_cons_succ, Option.map_some, BT.nm, wipeE, seqK_n, seqK_r, andK_t, andK_f, orK_f, orK_t, iteK_t, iteK_f, asgK_nm, asgK_t2, asgK_t3, endF_n, endF_r, slI_i, toBl_b, vw_i, vw_b, vw_t, vw_tI, vw_tT, vw_l, vw_s, vw_n, vw_ty, src_t, src_tI, src_tT, src_l, bin_add, bin_sub, neg_i, not_b, R.bind_assoc, e_isx, e_isv, e_lm, e_rngT1, e_rngT2, e_dget, e_din, e_dict, e_dictZ, e_callC, i_enm, s_app, seeL_l, lmK_l, enmK_t, e_lstC, e_addC, if_neg hlt]
            exact ⟨_, rfl, hG2.trans g3, _, _, rfl⟩
      simp only [b_worst_lot_2]
      rw [b_cons]
      refine Wp.bind (inner.mono fun fl S2 hf => ?_)
      obtain ⟨ρ', rfl, hG2, t2, t3, rfl⟩ := hf
      simp only [e_var, e_cst, e_ty, e_gfn, e_bin, e_cmp, e_chn, e_neg, e_nt, e_one, e_and, e_or, e_ite, e_tup, e_lst, e_idx, e_slc, o_none, o_some, e_call, e_blt, e_isi, a_nil, a_cons, i_of, i_rng, c_none, c_some, s_set, s_setLc, s_asg, s_par, s_stI, s_ex, s_ret, s_if, s_rai, s_pass, b_nil, b_cons, M.opt_some, R.bind_ok, R.bind_exc, getE_0, getE_s, List.map_cons, List.map_nil, List.cons_append, List.nil_append, List.length_cons, List.length_nil, List.replicate_succ, List.replicate_zero, Nat.reduceSub, Nat.reduceAdd, List.set_cons_zero, List.set_cons_succ, Option.map_some, BT.nm, wipeE, seqK_n, seqK_r, andK_t, andK_f, orK_f, orK_t, iteK_t, iteK_f, asgK_nm, asgK_t2, asgK_t3, endF_n, endF_r, slI_i, toBl_b, vw_i, vw_b, vw_t, vw_tI, vw_tT, vw_l, vw_s, vw_n, vw_ty, src_t, src_tI, src_tT, src_l, bin_add, bin_sub, neg_i, not_b, R.bind_assoc, e_isx, e_isv, e_lm, e_rngT1, e_rngT2, e_dget, e_din, e_dict, e_dictZ, e_callC, i_enm, s_app, seeL_l, lmK_l, enmK_t, e_lstC, e_addC]
      refine ⟨_, rfl, hG2, some (.int (1 + (a : Int))), t2, t3, ?_⟩
      rw [List.take_length, List.range_succ, List.flatMap_append, List.flatMap_cons, List.flatMap_nil, List.append_nil]
  obtain ⟨fl, S', e, ρ', rfl, hG, t1, t2, t3, rfl⟩ := key.get
  rw [List.length_range] at e
  rw [rf_eq h.wor]
  simp only [b_worst_lot, e_var, e_cst, e_ty, e_gfn, e_bin, e_cmp, e_chn, e_neg, e_nt, e_one, e_and, e_or, e_ite, e_tup, e_lst, e_idx, e_slc, o_none, o_some, e_call, e_blt, e_isi, a_nil, a_cons, i_of, i_rng, c_none, c_some, s_set, s_setLc, s_asg, s_par, s_stI, s_ex, s_ret, s_if, s_rai, s_pass, b_nil, b_cons, M.opt_some, R.bind_ok, R.bind_exc, getE_0, getE_s, List.map_cons, List.map_nil, List.cons_append, List.nil_append, List.length_cons, List.length_nil, List.replicate_succ, List.replicate_zero, Nat.reduceSub, Nat.reduceAdd, List.set_cons_zero, List.set_cons_succ, Option.map_some, BT.nm, wipeE, seqK_n, seqK_r, andK_t, andK_f, orK_f, orK_t, iteK_t, iteK_f, asgK_nm, asgK_t2, asgK_t3, endF_n, endF_r, slI_i, toBl_b, vw_i, vw_b, vw_t, vw_tI, vw_tT, vw_l, vw_s, vw_n, vw_ty, src_t, src_tI, src_tT, src_l, bin_add, bin_sub, neg_i, not_b, R.bind_assoc, e_isx, e_isv, e_lm, e_rngT1, e_rngT2, e_dget, e_din, e_dict, e_dictZ, e_callC, i_enm, s_app, seeL_l, lmK_l, enmK_t, e_lstC, e_addC]
  rw [r_check_family h.toHasF F]
  simp only [e_var, e_cst, e_ty, e_gfn, e_bin, e_cmp, e_chn, e_neg, e_nt, e_one, e_and, e_or, e_ite, e_tup, e_lst, e_idx, e_slc, o_none, o_some, e_call, e_blt, e_isi, a_nil, a_cons, i_of, i_rng, c_none, c_some, s_set, s_setLc, s_asg, s_par, s_stI, s_ex, s_ret, s_if, s_rai, s_pass, b_nil, b_cons, M.opt_some, R.bind_ok, R.bind_exc, getE_0, getE_s, List.map_cons, List.map_nil, List.cons_append, List.nil_append, List.length_cons, List.length_nil, List.replicate_succ, List.replicate_zero, Nat.reduceSub, Nat.reduceAdd, List.set_cons_zero, List.set_cons_succ, Option.map_some, BT.nm, wipeE, seqK_n, seqK_r, andK_t, andK_f, orK_f, orK_t, iteK_t, iteK_f, asgK_nm, asgK_t2, asgK_t3, endF_n, endF_r, slI_i, toBl_b, vw_i, vw_b, vw_t, vw_tI, vw_tT, vw_l, vw_s, vw_n, vw_ty, src_t, src_tI, src_tT, src_l, bin_add, bin_sub, neg_i, not_b, R.bind_assoc, e_isx, e_isv, e_lm, e_rngT1, e_rngT2, e_dget, e_din, e_dict, e_dictZ, e_callC, i_enm, s_app, seeL_l, lmK_l, enmK_t, e_lstC, e_addC]
  rw [e]
  simp only [e_var, e_cst, e_ty, e_gfn, e_bin, e_cmp, e_chn, e_neg, e_nt, e_one, e_and, e_or, e_ite, e_tup, e_lst, e_idx, e_slc, o_none, o_some, e_call, e_blt, e_isi, a_nil, a_cons, i_of, i_rng, c_none, c_some, s_set, s_setLc, s_asg, s_par, s_stI, s_ex, s_ret, s_if, s_rai, s_pass, b_nil, b_cons, M.opt_some, R.bind_ok, R.bind_exc, getE_0, getE_s, List.map_cons, List.map_nil, List.cons_append, List.nil_append, List.length_cons, List.length_nil, List.replicate_succ, List.replicate_zero, Nat.reduceSub, Nat.reduceAdd, List.set_cons_zero, List.set_cons_succ, Option.map_some, BT.nm, wipeE, seqK_n, seqK_r, andK_t, andK_f, orK_f, orK_t, iteK_t, iteK_f, asgK_nm, asgK_t2, asgK_t3, endF_n, endF_r, slI_i, toBl_b, vw_i, vw_b, vw_t, vw_tI, vw_tT, vw_l, vw_s, vw_n, vw_ty, src_t, src_tI, src_tT, src_l, bin_add, bin_sub, neg_i, not_b, R.bind_assoc, e_isx, e_isv, e_lm, e_rngT1, e_rngT2, e_dget, e_din, e_dict, e_dictZ, e_callC, i_enm, s_app, seeL_l, lmK_l, enmK_t, e_lstC, e_addC]
  rw [show ((List.range n.toNat).flatMap fun i => nums n.toNat (i + 1)) = lotsP n.toNat from rfl, scan_spec _ (fun L => lwv_nn F.ne) _ (lotsP_ne (by omega))]
  exact ⟨S', rfl, hG⟩
theorem r_always (h : HasW fs) (F : FamOk n ss) : Ok (runF fs (k + 6) "is_always_even" [fam n ss] S) (.bl (decide (worstV n.toNat ss ≤ 1))) S := by
  obtain ⟨S1, e, g⟩ := r_worst (k := k) (S := S) h F
  refine ⟨S1, ?_, g⟩
  rw [rf_eq h.alw]
  simp only [b_is_always_even, e_var, e_cst, e_ty, e_gfn, e_bin, e_cmp, e_chn, e_neg, e_nt, e_one, e_and, e_or, e_ite, e_tup, e_lst, e_idx, e_slc, o_none, o_some, e_call, e_blt, e_isi, a_nil, a_cons, i_of, i_rng, c_none, c_some, s_set, s_setLc, s_asg, s_par, s_stI, s_ex, s_ret, s_if, s_rai, s_pass, b_nil, b_cons, M.opt_some, R.bind_ok, R.bind_exc, getE_0, getE_s, List.map_cons, List.map_nil, List.cons_append, List.nil_append, List.length_cons, List.length_nil, List.replicate_succ, List.replicate_zero, Nat.reduceSub, Nat.reduceAdd, List.set_cons_zero, List.set_cons_succ, Option.map_some, BT.nm, wipeE, seqK_n, seqK_r, andK_t, andK_f, orK_f, orK_t, iteK_t, iteK_f, asgK_nm, asgK_t2, asgK_t3, endF_n, endF_r, slI_i, toBl_b, vw_i, vw_b, vw_t, vw_tI, vw_tT, vw_l, vw_s, vw_n, vw_ty, src_t, src_tI, src_tT, src_l, bin_add, bin_sub, neg_i, not_b, R.bind_assoc, e_isx, e_isv, e_lm, e_rngT1, e_rngT2, e_dget, e_din, e_dict, e_dictZ, e_callC, i_enm, s_app, seeL_l, lmK_l, enmK_t, e_lstC, e_addC]
  rw [e]
  simp only [e_var, e_cst, e_ty, e_gfn, e_bin, e_cmp, e_chn, e_neg, e_nt, e_one, e_and, e_or, e_ite, e_tup, e_lst, e_idx, e_slc, o_none, o_some, e_call, e_blt, e_isi, a_nil, a_cons, i_of, i_rng, c_none, c_some, s_set, s_setLc, s_asg, s_par, s_stI, s_ex, s_ret, s_if, s_rai, s_pass, b_nil, b_cons, M.opt_some, R.bind_ok, R.bind_exc, getE_0, getE_s, List.map_cons, List.map_nil, List.cons_append, List.nil_append, List.length_cons, List.length_nil, List.replicate_succ, List.replicate_zero, Nat.reduceSub, Nat.reduceAdd, List.set_cons_zero, List.set_cons_succ, Option.map_some, BT.nm, wipeE, seqK_n, seqK_r, andK_t, andK_f, orK_f, orK_t, iteK_t, iteK_f, asgK_nm, asgK_t2, asgK_t3, endF_n, endF_r, slI_i, toBl_b, vw_i, vw_b, vw_t, vw_tI, vw_tT, vw_l, vw_s, vw_n, vw_ty, src_t, src_tI, src_tT, src_l, bin_add, bin_sub, neg_i, not_b, R.bind_assoc, e_isx, e_isv, e_lm, e_rngT1, e_rngT2, e_dget, e_din, e_dict, e_dictZ, e_callC, i_enm, s_app, seeL_l, lmK_l, enmK_t, e_lstC, e_addC, idx_t, atI_0, cmp_le]
end
end LC

end
section
set_option maxHeartbeats 4000000
/-! Q4: what the laws share: outcomes, picks, lots, all rows. -/
namespace LC
open PySem PySem.Spec PyProof.Rows L2
theorem Tn.gr {ns : List Int} {T : Store} {b : Nat} {S S' : Store} (h : Tn ns T b S) (g : Gr S S') : ∃ T', Tn ns T' b S' := by
  obtain ⟨c, ys, rfl, h1, h2, h3⟩ := h
  obtain ⟨E, rfl⟩ := g
  exact ⟨T ++ E, c, ys, rfl, h1, h2, h3⟩
/-! ### outcomes -/
def exAll : List Str := ["InvalidFamily", "InvalidColours", "InvalidNumber", "InvalidLot", "InvalidTold", "InvalidRounding", "InvalidSet", "InvalidNames", "InvalidMixture", "InvalidSums", "InvalidBottom", "InvalidText", "LastOne", "TooMany", "NothingToUndo"]
def exNm : List Str := ["family", "colours", "number", "lot", "told", "rounding", "set", "names", "mixture", "sums", "bottom", "text", "last_one", "many", "undo"]
def raised (i : Nat) : D := .tup [.str "raised", .int (i : Nat)]
def returned (d : D) : D := .tup [.str "returned", d]
structure HasO (fs : Str → Option Fn) : Prop where
  out : fs "_law_outcome" = some ⟨2, 5, b__law_outcome⟩
  nam : fs "_law_name" = some ⟨1, 2, b__law_name⟩
  rai : fs "_law_raises" = some ⟨1, 2, b__law_raises⟩
theorem ra_all (cf : Str → List D → M D) (S : Store) : ∀ i : Fin 15, (exB cf b__law_raises [some (.str (exNm[i.val]'i.isLt)), none] S).bind endF = .ok (raised i.val) S := by
  intro i
  match i with
  | ⟨0, _⟩ => kernel_rfl
  | ⟨1, _⟩ => kernel_rfl
  | ⟨2, _⟩ => kernel_rfl
  | ⟨3, _⟩ => kernel_rfl
  | ⟨4, _⟩ => kernel_rfl
  | ⟨5, _⟩ => kernel_rfl
  | ⟨6, _⟩ => kernel_rfl
  | ⟨7, _⟩ => kernel_rfl
  | ⟨8, _⟩ => kernel_rfl
  | ⟨9, _⟩ => kernel_rfl
  | ⟨10, _⟩ => kernel_rfl
  | ⟨11, _⟩ => kernel_rfl
  | ⟨12, _⟩ => kernel_rfl
  | ⟨13, _⟩ => kernel_rfl
  | ⟨14, _⟩ => kernel_rfl
theorem na_all (cf : Str → List D → M D) (S : Store) : ∀ i : Fin 15, (exB cf b__law_name [some (.exc (exAll[i.val]'i.isLt)), none] S).bind endF = .ok (.int (i.val : Nat)) S := by
  intro i
  match i with
  | ⟨0, _⟩ => kernel_rfl
  | ⟨1, _⟩ => kernel_rfl
  | ⟨2, _⟩ => kernel_rfl
  | ⟨3, _⟩ => kernel_rfl
  | ⟨4, _⟩ => kernel_rfl
  | ⟨5, _⟩ => kernel_rfl
  | ⟨6, _⟩ => kernel_rfl
  | ⟨7, _⟩ => kernel_rfl
  | ⟨8, _⟩ => kernel_rfl
  | ⟨9, _⟩ => kernel_rfl
  | ⟨10, _⟩ => kernel_rfl
  | ⟨11, _⟩ => kernel_rfl
  | ⟨12, _⟩ => kernel_rfl
  | ⟨13, _⟩ => kernel_rfl
  | ⟨14, _⟩ => kernel_rfl
theorem out_eq : b__law_outcome = .cons (.set 2 (.cst .non)) (.cons (.set 3 (.cst .non)) (.cons (.tryE 3 "ColourError" exAll 4 2 (.call "_law_call" (.cons (.var 0) (.cons (.var 1) .nil)))) (.cons (.ifs (.cmp .Is (.var 2) (.cst .non)) (.cons (.ret (.tup (.cons (.cst (.str "returned")) (.cons (.var 3) .nil)))) .nil) .nil) (.cons (.ret (.tup (.cons (.cst (.str "raised")) (.cons (.call "_law_name" (.cons (.var 2) .nil)) .nil)))) .nil)))) := rfl
section
variable {fs : Str → Option Fn} {k : Nat} {S S1 T : Store} {n : Int} {ss : List (List Int)} {L : List Int} {ns : List Int} {b : Nat}
theorem r_raises (h : HasO fs) (i : Nat) (hi : i < 15) : runF fs (k + 1) "_law_raises" [.str (exNm[i]'hi)] S = .ok (raised i) S := by
  rw [rf_eq h.rai]
  exact ra_all _ _ ⟨i, hi⟩
theorem rr_family (h : HasO fs) : runF fs (k + 1) "_law_raises" [.str "family"] S = .ok (raised 0) S := r_raises h 0 (by decide)
theorem rr_colours (h : HasO fs) : runF fs (k + 1) "_law_raises" [.str "colours"] S = .ok (raised 1) S := r_raises h 1 (by decide)
theorem rr_number (h : HasO fs) : runF fs (k + 1) "_law_raises" [.str "number"] S = .ok (raised 2) S := r_raises h 2 (by decide)
theorem rr_lot (h : HasO fs) : runF fs (k + 1) "_law_raises" [.str "lot"] S = .ok (raised 3) S := r_raises h 3 (by decide)
theorem rr_told (h : HasO fs) : runF fs (k + 1) "_law_raises" [.str "told"] S = .ok (raised 4) S := r_raises h 4 (by decide)
theorem rr_rounding (h : HasO fs) : runF fs (k + 1) "_law_raises" [.str "rounding"] S = .ok (raised 5) S := r_raises h 5 (by decide)
theorem rr_set (h : HasO fs) : runF fs (k + 1) "_law_raises" [.str "set"] S = .ok (raised 6) S := r_raises h 6 (by decide)
theorem rr_names (h : HasO fs) : runF fs (k + 1) "_law_raises" [.str "names"] S = .ok (raised 7) S := r_raises h 7 (by decide)
theorem rr_mixture (h : HasO fs) : runF fs (k + 1) "_law_raises" [.str "mixture"] S = .ok (raised 8) S := r_raises h 8 (by decide)
theorem rr_sums (h : HasO fs) : runF fs (k + 1) "_law_raises" [.str "sums"] S = .ok (raised 9) S := r_raises h 9 (by decide)
theorem rr_bottom (h : HasO fs) : runF fs (k + 1) "_law_raises" [.str "bottom"] S = .ok (raised 10) S := r_raises h 10 (by decide)
theorem rr_text (h : HasO fs) : runF fs (k + 1) "_law_raises" [.str "text"] S = .ok (raised 11) S := r_raises h 11 (by decide)
theorem rr_last_one (h : HasO fs) : runF fs (k + 1) "_law_raises" [.str "last_one"] S = .ok (raised 12) S := r_raises h 12 (by decide)
theorem rr_many (h : HasO fs) : runF fs (k + 1) "_law_raises" [.str "many"] S = .ok (raised 13) S := r_raises h 13 (by decide)
theorem rr_undo (h : HasO fs) : runF fs (k + 1) "_law_raises" [.str "undo"] S = .ok (raised 14) S := r_raises h 14 (by decide)
theorem r_out_ok (h : HasO fs) {how args d : D} (hc : runF fs (k + 1) "_law_call" [how, args] S = .ok d S1) : runF fs (k + 2) "_law_outcome" [how, args] S = .ok (returned d) S1 := by
  have he : evE (runF fs (k + 1)) (.call "_law_call" (.cons (.var 0) (.cons (.var 1) .nil))) [some how, some args, some .non, some .non, none] S = .ok d S1 := by simp only [e_var, e_cst, e_ty, e_gfn, e_bin, e_cmp, e_chn, e_neg, e_nt, e_one, e_and, e_or, e_ite, e_tup, e_lst, e_idx, e_slc, o_none, o_some, e_call, e_blt, e_isi, a_nil, a_cons, i_of, i_rng, c_none, c_some, s_set, s_setLc, s_asg, s_par, s_stI, s_ex, s_ret, s_if, s_rai, s_pass, b_nil, b_cons, M.opt_some, R.bind_ok, R.bind_exc, getE_0, getE_s, List.map_cons, List.map_nil, List.cons_append, List.nil_append, List.length_cons, List.length_nil, List.replicate_succ, List.replicate_zero, Nat.reduceSub, Nat.reduceAdd, List.set_cons_zero, List.set_cons_succ, Option.map_some, BT.nm, wipeE, seqK_n, seqK_r, andK_t, andK_f, orK_f, orK_t, iteK_t, iteK_f, asgK_nm, asgK_t2, asgK_t3, endF_n, endF_r, slI_i, toBl_b, vw_i, vw_b, vw_t, vw_tI, vw_tT, vw_l, vw_s, vw_n, vw_ty, src_t, src_tI, src_tT, src_l, bin_add, bin_sub, neg_i, not_b, R.bind_assoc, e_isx, e_isv, e_lm, e_rngT1, e_rngT2, e_dget, e_din, e_dict, e_dictZ, e_callC, i_enm, s_app, seeL_l, lmK_l, enmK_t, e_lstC, e_addC, hc]
  rw [rf_eq h.out, out_eq]
  simp only [e_var, e_cst, e_ty, e_gfn, e_bin, e_cmp, e_chn, e_neg, e_nt, e_one, e_and, e_or, e_ite, e_tup, e_lst, e_idx, e_slc, o_none, o_some, e_call, e_blt, e_isi, a_nil, a_cons, i_of, i_rng, c_none, c_some, s_set, s_setLc, s_asg, s_par, s_stI, s_ex, s_ret, s_if, s_rai, s_pass, b_nil, b_cons, M.opt_some, R.bind_ok, R.bind_exc, getE_0, getE_s, List.map_cons, List.map_nil, List.cons_append, List.nil_append, List.length_cons, List.length_nil, List.replicate_succ, List.replicate_zero, Nat.reduceSub, Nat.reduceAdd, List.set_cons_zero, List.set_cons_succ, Option.map_some, BT.nm, wipeE, seqK_n, seqK_r, andK_t, andK_f, orK_f, orK_t, iteK_t, iteK_f, asgK_nm, asgK_t2, asgK_t3, endF_n, endF_r, slI_i, toBl_b, vw_i, vw_b, vw_t, vw_tI, vw_tT, vw_l, vw_s, vw_n, vw_ty, src_t, src_tI, src_tT, src_l, bin_add, bin_sub, neg_i, not_b, R.bind_assoc, e_isx, e_isv, e_lm, e_rngT1, e_rngT2, e_dget, e_din, e_dict, e_dictZ, e_callC, i_enm, s_app, seeL_l, lmK_l, enmK_t, e_lstC, e_addC]
  rw [s_try_ok he]
  simp only [e_var, e_cst, e_ty, e_gfn, e_bin, e_cmp, e_chn, e_neg, e_nt, e_one, e_and, e_or, e_ite, e_tup, e_lst, e_idx, e_slc, o_none, o_some, e_call, e_blt, e_isi, a_nil, a_cons, i_of, i_rng, c_none, c_some, s_set, s_setLc, s_asg, s_par, s_stI, s_ex, s_ret, s_if, s_rai, s_pass, b_nil, b_cons, M.opt_some, R.bind_ok, R.bind_exc, getE_0, getE_s, List.map_cons, List.map_nil, List.cons_append, List.nil_append, List.length_cons, List.length_nil, List.replicate_succ, List.replicate_zero, Nat.reduceSub, Nat.reduceAdd, List.set_cons_zero, List.set_cons_succ, Option.map_some, BT.nm, wipeE, seqK_n, seqK_r, andK_t, andK_f, orK_f, orK_t, iteK_t, iteK_f, asgK_nm, asgK_t2, asgK_t3, endF_n, endF_r, slI_i, toBl_b, vw_i, vw_b, vw_t, vw_tI, vw_tT, vw_l, vw_s, vw_n, vw_ty, src_t, src_tI, src_tT, src_l, bin_add, bin_sub, neg_i, not_b, R.bind_assoc, e_isx, e_isv, e_lm, e_rngT1, e_rngT2, e_dget, e_din, e_dict, e_dictZ, e_callC, i_enm, s_app, seeL_l, lmK_l, enmK_t, e_lstC, e_addC, show cmpB .Is .non .non = some (.bl true) from rfl]
  rfl
theorem r_out_exc (h : HasO fs) {how args : D} {i : Nat} (hi : i < 15) (hc : runF fs (k + 1) "_law_call" [how, args] S = .exc (exAll[i]'hi) S1) : runF fs (k + 2) "_law_outcome" [how, args] S = .ok (raised i) S1 := by
  have he : evE (runF fs (k + 1)) (.call "_law_call" (.cons (.var 0) (.cons (.var 1) .nil))) [some how, some args, some .non, some .non, none] S = .exc (exAll[i]'hi) S1 := by simp only [e_var, e_cst, e_ty, e_gfn, e_bin, e_cmp, e_chn, e_neg, e_nt, e_one, e_and, e_or, e_ite, e_tup, e_lst, e_idx, e_slc, o_none, o_some, e_call, e_blt, e_isi, a_nil, a_cons, i_of, i_rng, c_none, c_some, s_set, s_setLc, s_asg, s_par, s_stI, s_ex, s_ret, s_if, s_rai, s_pass, b_nil, b_cons, M.opt_some, R.bind_ok, R.bind_exc, getE_0, getE_s, List.map_cons, List.map_nil, List.cons_append, List.nil_append, List.length_cons, List.length_nil, List.replicate_succ, List.replicate_zero, Nat.reduceSub, Nat.reduceAdd, List.set_cons_zero, List.set_cons_succ, Option.map_some, BT.nm, wipeE, seqK_n, seqK_r, andK_t, andK_f, orK_f, orK_t, iteK_t, iteK_f, asgK_nm, asgK_t2, asgK_t3, endF_n, endF_r, slI_i, toBl_b, vw_i, vw_b, vw_t, vw_tI, vw_tT, vw_l, vw_s, vw_n, vw_ty, src_t, src_tI, src_tT, src_l, bin_add, bin_sub, neg_i, not_b, R.bind_assoc, e_isx, e_isv, e_lm, e_rngT1, e_rngT2, e_dget, e_din, e_dict, e_dictZ, e_callC, i_enm, s_app, seeL_l, lmK_l, enmK_t, e_lstC, e_addC, hc]
  have hr : exAll.contains (exAll[i]'hi) = true := by simpa using List.getElem_mem hi
  have hn : runF fs (k + 1) "_law_name" [.exc (exAll[i]'hi)] S1 = .ok (.int (i : Nat)) S1 := by
    rw [rf_eq h.nam]
    exact na_all (runF fs k) S1 ⟨i, hi⟩
  rw [rf_eq h.out, out_eq]
  simp only [e_var, e_cst, e_ty, e_gfn, e_bin, e_cmp, e_chn, e_neg, e_nt, e_one, e_and, e_or, e_ite, e_tup, e_lst, e_idx, e_slc, o_none, o_some, e_call, e_blt, e_isi, a_nil, a_cons, i_of, i_rng, c_none, c_some, s_set, s_setLc, s_asg, s_par, s_stI, s_ex, s_ret, s_if, s_rai, s_pass, b_nil, b_cons, M.opt_some, R.bind_ok, R.bind_exc, getE_0, getE_s, List.map_cons, List.map_nil, List.cons_append, List.nil_append, List.length_cons, List.length_nil, List.replicate_succ, List.replicate_zero, Nat.reduceSub, Nat.reduceAdd, List.set_cons_zero, List.set_cons_succ, Option.map_some, BT.nm, wipeE, seqK_n, seqK_r, andK_t, andK_f, orK_f, orK_t, iteK_t, iteK_f, asgK_nm, asgK_t2, asgK_t3, endF_n, endF_r, slI_i, toBl_b, vw_i, vw_b, vw_t, vw_tI, vw_tT, vw_l, vw_s, vw_n, vw_ty, src_t, src_tI, src_tT, src_l, bin_add, bin_sub, neg_i, not_b, R.bind_assoc, e_isx, e_isv, e_lm, e_rngT1, e_rngT2, e_dget, e_din, e_dict, e_dictZ, e_callC, i_enm, s_app, seeL_l, lmK_l, enmK_t, e_lstC, e_addC]
  rw [s_try_exc he hr (by simp)]
  have ev : ∀ S, vw S (.exc (exAll[i]'hi)) = .exc (exAll[i]'hi) := fun _ => rfl
  have ei : cmpB .Is (.exc (exAll[i]'hi)) .non = some (.bl false) := rfl
  simp only [e_var, e_cst, e_ty, e_gfn, e_bin, e_cmp, e_chn, e_neg, e_nt, e_one, e_and, e_or, e_ite, e_tup, e_lst, e_idx, e_slc, o_none, o_some, e_call, e_blt, e_isi, a_nil, a_cons, i_of, i_rng, c_none, c_some, s_set, s_setLc, s_asg, s_par, s_stI, s_ex, s_ret, s_if, s_rai, s_pass, b_nil, b_cons, M.opt_some, R.bind_ok, R.bind_exc, getE_0, getE_s, List.map_cons, List.map_nil, List.cons_append, List.nil_append, List.length_cons, List.length_nil, List.replicate_succ, List.replicate_zero, Nat.reduceSub, Nat.reduceAdd, List.set_cons_zero, List.set_cons_succ, Option.map_some, BT.nm, wipeE, seqK_n, seqK_r, andK_t, andK_f, orK_f, orK_t, iteK_t, iteK_f, asgK_nm, asgK_t2, asgK_t3, endF_n, endF_r, slI_i, toBl_b, vw_i, vw_b, vw_t, vw_tI, vw_tT, vw_l, vw_s, vw_n, vw_ty, src_t, src_tI, src_tT, src_l, bin_add, bin_sub, neg_i, not_b, R.bind_assoc, e_isx, e_isv, e_lm, e_rngT1, e_rngT2, e_dget, e_din, e_dict, e_dictZ, e_callC, i_enm, s_app, seeL_l, lmK_l, enmK_t, e_lstC, e_addC, ev, ei, hn]
  rfl
/-! ### picks -/
theorem r_pick (h : DrawOk fs) (hp : fs "_law_pick" = some ⟨3, 3, b__law_pick⟩) {l : List D} (h1 : l ≠ []) (hl : l.length ≤ 1000) (hb : b ≤ 1000000) (ht : Tn ns T b S) :
    Wp (runF fs (k + 2) "_law_pick" [lI ns, .cell 0, .lst l] S) (fun d S' => ∃ i : Nat, l[i]? = some d ∧ Tn ns T (b + 1) S') := by
  rw [rf_eq hp]
  simp only [b__law_pick, e_var, e_cst, e_ty, e_gfn, e_bin, e_cmp, e_chn, e_neg, e_nt, e_one, e_and, e_or, e_ite, e_tup, e_lst, e_idx, e_slc, o_none, o_some, e_call, e_blt, e_isi, a_nil, a_cons, i_of, i_rng, c_none, c_some, s_set, s_setLc, s_asg, s_par, s_stI, s_ex, s_ret, s_if, s_rai, s_pass, b_nil, b_cons, M.opt_some, R.bind_ok, R.bind_exc, getE_0, getE_s, List.map_cons, List.map_nil, List.cons_append, List.nil_append, List.length_cons, List.length_nil, List.replicate_succ, List.replicate_zero, Nat.reduceSub, Nat.reduceAdd, List.set_cons_zero, List.set_cons_succ, Option.map_some, BT.nm, wipeE, seqK_n, seqK_r, andK_t, andK_f, orK_f, orK_t, iteK_t, iteK_f, asgK_nm, asgK_t2, asgK_t3, endF_n, endF_r, slI_i, toBl_b, vw_i, vw_b, vw_t, vw_tI, vw_tT, vw_l, vw_s, vw_n, vw_ty, src_t, src_tI, src_tT, src_l, bin_add, bin_sub, neg_i, not_b, R.bind_assoc, e_isx, e_isv, e_lm, e_rngT1, e_rngT2, e_dget, e_din, e_dict, e_dictZ, e_callC, i_enm, s_app, seeL_l, lmK_l, enmK_t, e_lstC, e_addC, len_l]
  have : l.length ≠ 0 := fun z => h1 (List.length_eq_zero_iff.mp z)
  refine Wp.bind ((r_draw h (lim := l.length) (by omega) hb ht).mono fun d S1 hd => ?_)
  obtain ⟨v, rfl, v0, v1, ht1⟩ := hd
  have hv : v.toNat < l.length := by omega
  simp only [e_var, e_cst, e_ty, e_gfn, e_bin, e_cmp, e_chn, e_neg, e_nt, e_one, e_and, e_or, e_ite, e_tup, e_lst, e_idx, e_slc, o_none, o_some, e_call, e_blt, e_isi, a_nil, a_cons, i_of, i_rng, c_none, c_some, s_set, s_setLc, s_asg, s_par, s_stI, s_ex, s_ret, s_if, s_rai, s_pass, b_nil, b_cons, M.opt_some, R.bind_ok, R.bind_exc, getE_0, getE_s, List.map_cons, List.map_nil, List.cons_append, List.nil_append, List.length_cons, List.length_nil, List.replicate_succ, List.replicate_zero, Nat.reduceSub, Nat.reduceAdd, List.set_cons_zero, List.set_cons_succ, Option.map_some, BT.nm, wipeE, seqK_n, seqK_r, andK_t, andK_f, orK_f, orK_t, iteK_t, iteK_f, asgK_nm, asgK_t2, asgK_t3, endF_n, endF_r, slI_i, toBl_b, vw_i, vw_b, vw_t, vw_tI, vw_tT, vw_l, vw_s, vw_n, vw_ty, src_t, src_tI, src_tT, src_l, bin_add, bin_sub, neg_i, not_b, R.bind_assoc, e_isx, e_isv, e_lm, e_rngT1, e_rngT2, e_dget, e_din, e_dict, e_dictZ, e_callC, i_enm, s_app, seeL_l, lmK_l, enmK_t, e_lstC, e_addC, idx_l]
  rw [atI_of (j := v.toNat) (x := l[v.toNat]) (by omega) (List.getElem?_eq_getElem hv)]
  simp only [e_var, e_cst, e_ty, e_gfn, e_bin, e_cmp, e_chn, e_neg, e_nt, e_one, e_and, e_or, e_ite, e_tup, e_lst, e_idx, e_slc, o_none, o_some, e_call, e_blt, e_isi, a_nil, a_cons, i_of, i_rng, c_none, c_some, s_set, s_setLc, s_asg, s_par, s_stI, s_ex, s_ret, s_if, s_rai, s_pass, b_nil, b_cons, M.opt_some, R.bind_ok, R.bind_exc, getE_0, getE_s, List.map_cons, List.map_nil, List.cons_append, List.nil_append, List.length_cons, List.length_nil, List.replicate_succ, List.replicate_zero, Nat.reduceSub, Nat.reduceAdd, List.set_cons_zero, List.set_cons_succ, Option.map_some, BT.nm, wipeE, seqK_n, seqK_r, andK_t, andK_f, orK_f, orK_t, iteK_t, iteK_f, asgK_nm, asgK_t2, asgK_t3, endF_n, endF_r, slI_i, toBl_b, vw_i, vw_b, vw_t, vw_tI, vw_tT, vw_l, vw_s, vw_n, vw_ty, src_t, src_tI, src_tT, src_l, bin_add, bin_sub, neg_i, not_b, R.bind_assoc, e_isx, e_isv, e_lm, e_rngT1, e_rngT2, e_dget, e_din, e_dict, e_dictZ, e_callC, i_enm, s_app, seeL_l, lmK_l, enmK_t, e_lstC, e_addC]
  exact ⟨v.toNat, List.getElem?_eq_getElem hv, ht1⟩
/-! ### all lots, as the laws count them -/
def subs : Nat → List (List Int)
  | 0 => [[]]
  | t + 1 => subs t ++ (subs t).map fun r => r ++ [(t : Int)]
def sizeD (L : List Int) : D := .tup [.int (L.length : Nat), tI L]
theorem subs_len : ∀ t, (subs t).length = 2 ^ t
  | 0 => rfl
  | t + 1 => by
    show (subs t ++ (subs t).map _).length = _
    rw [List.length_append, List.length_map, subs_len t, Nat.pow_succ]
    omega
theorem subs_small : ∀ t, ∀ r ∈ subs t, r.length ≤ t
  | 0, r, h => by
    have : r = [] := by simpa [subs] using h
    subst this
    simp
  | t + 1, r, h => by
    rcases List.mem_append.mp (show r ∈ subs t ++ (subs t).map fun r => r ++ [(t : Int)] from h) with h | h
    · have := subs_small t r h
      omega
    · obtain ⟨q, hq, rfl⟩ := List.mem_map.mp h
      have := subs_small t q hq
      simp
      omega
def nextB {α : Type} (le : α → α → Bool) : List α → Bool
  | a :: b :: r => le b a && nextB le (b :: r)
  | _ => true
theorem next_all {α : Type} {lt : α → α → Bool} (tr : ∀ a b c, lt a b = true → lt b c = true → lt a c = true) : ∀ {l : List α}, nextB (fun a b => lt b a) l = true → l.Pairwise fun a b => lt a b = true
  | [], _ => .nil
  | [a], _ => by simp
  | a :: b :: r, h => by
    obtain ⟨h1, h2⟩ := Bool.and_eq_true_iff.mp (show (lt a b && nextB (fun a b => lt b a) (b :: r)) = true from h)
    have ih := next_all tr h2
    refine List.pairwise_cons.mpr ⟨fun c hc => ?_, ih⟩
    rcases List.mem_cons.mp hc with rfl | hc
    · exact h1
    · exact tr _ _ _ h1 ((List.pairwise_cons.mp ih).1 c hc)
def ltD (a b : D) : Bool := !PySem.W.dataLe false D.pd b a
theorem ltD_tr (a b c : D) (h1 : ltD a b = true) (h2 : ltD b c = true) : ltD a c = true := by
  unfold ltD at *
  cases q : PySem.W.dataLe false D.pd c a with
  | false => rfl
  | true =>
    have h3 : PySem.W.dataLe false D.pd b c = true := by
      have t : PySem.W.dataLe false D.pd b c = true ∨ PySem.W.dataLe false D.pd c b = true := (PySem.W.sortLe_total _ _ _).total _ _
      rcases t with t | t
      · exact t
      · rw [t] at h2; cases h2
    have h4 : PySem.W.dataLe false D.pd b a = true := (PySem.W.sortLe_total _ _ _).trans _ _ _ h3 q
    rw [h4] at h1
    cases h1
theorem sortD_by {xs ys : List D} (hp : ys.Perm xs) (hs : nextB (fun a b => ltD b a) ys = true) : sortD xs = ys := by
  refine sortD_is hp ((next_all ltD_tr hs).imp fun {a b} h => ?_)
  unfold ltD at h
  simpa using h
theorem lots_perm : ∀ t ∈ List.range 8, (subs t).isPerm ([] :: lotsP t) = true := by decide +kernel
theorem lots_inc : ∀ t ∈ List.range 8, nextB (fun a b => ltD b a) (([] :: lotsP t).map sizeD) = true := by decide +kernel
theorem lots_ok : ∀ t ∈ List.range 8, sortOk ((subs t).map sizeD) = true := by decide +kernel
theorem sort_lots {t : Nat} (h : t ≤ 7) : sortD ((subs t).map sizeD) = ([] :: lotsP t).map sizeD := by
  have ht := List.mem_range.mpr (show t < 8 by omega)
  have hp := List.isPerm_iff.mp (lots_perm t ht)
  exact sortD_by (hp.symm.map _) (lots_inc t ht)
theorem lots_pos : ∀ t ∈ List.range 8, (lotsP t).all (fun L => decide (0 < L.length)) = true := by decide +kernel
theorem lots_len : ∀ t ∈ List.range 8, (lotsP t).length ≤ 127 := by decide +kernel
theorem r_lots (h : fs "_law_lots" = some ⟨1, 5, b__law_lots⟩) {t : Nat} (ht : t ≤ 7) : runF fs (k + 1) "_law_lots" [.int t] S = .ok (.lst ((lotsP t).map tI)) S := by
  have hr := List.mem_range.mpr (show t < 8 by omega)
  have key : Wp (exS (runF fs k) (.for_ (.rng (.cons (.var 0) .nil)) (.nm 2) b__law_lots_1) [some (.int t), some (.lst [.tup []]), none, none, none] S) (fun fl S' => ∃ ρ', fl = .nx ρ' ∧ S' = S ∧ ∃ t1 : Option D, ρ' = [some (.int t), some (.lst ((subs (List.range t).length).map tI)), t1, none, none]) := by
    refine wpFn (S1 := S) (List.range t) (fun i : Nat => D.int (i : Int)) ?_ (fun i ρ' S' => S' = S ∧ ∃ t1 : Option D, ρ' = [some (.int t), some (.lst ((subs i).map tI)), t1, none, none]) ⟨rfl, none, rfl⟩ (fun i a ρ' S' hx hI => ?_)
    · simp only [e_var, e_cst, e_ty, e_gfn, e_bin, e_cmp, e_chn, e_neg, e_nt, e_one, e_and, e_or, e_ite, e_tup, e_lst, e_idx, e_slc, o_none, o_some, e_call, e_blt, e_isi, a_nil, a_cons, i_of, i_rng, c_none, c_some, s_set, s_setLc, s_asg, s_par, s_stI, s_ex, s_ret, s_if, s_rai, s_pass, b_nil, b_cons, M.opt_some, R.bind_ok, R.bind_exc, getE_0, getE_s, List.map_cons, List.map_nil, List.cons_append, List.nil_append, List.length_cons, List.length_nil, List.replicate_succ, List.replicate_zero, Nat.reduceSub, Nat.reduceAdd, List.set_cons_zero, List.set_cons_succ, Option.map_some, BT.nm, wipeE, seqK_n, seqK_r, andK_t, andK_f, orK_f, orK_t, iteK_t, iteK_f, asgK_nm, asgK_t2, asgK_t3, endF_n, endF_r, slI_i, toBl_b, vw_i, vw_b, vw_t, vw_tI, vw_tT, vw_l, vw_s, vw_n, vw_ty, src_t, src_tI, src_tT, src_l, bin_add, bin_sub, neg_i, not_b, R.bind_assoc, e_isx, e_isv, e_lm, e_rngT1, e_rngT2, e_dget, e_din, e_dict, e_dictZ, e_callC, i_enm, s_app, seeL_l, lmK_l, enmK_t, e_lstC, e_addC]
      rw [rng_1 (by omega), rangeD_n]
      simp only [e_var, e_cst, e_ty, e_gfn, e_bin, e_cmp, e_chn, e_neg, e_nt, e_one, e_and, e_or, e_ite, e_tup, e_lst, e_idx, e_slc, o_none, o_some, e_call, e_blt, e_isi, a_nil, a_cons, i_of, i_rng, c_none, c_some, s_set, s_setLc, s_asg, s_par, s_stI, s_ex, s_ret, s_if, s_rai, s_pass, b_nil, b_cons, M.opt_some, R.bind_ok, R.bind_exc, getE_0, getE_s, List.map_cons, List.map_nil, List.cons_append, List.nil_append, List.length_cons, List.length_nil, List.replicate_succ, List.replicate_zero, Nat.reduceSub, Nat.reduceAdd, List.set_cons_zero, List.set_cons_succ, Option.map_some, BT.nm, wipeE, seqK_n, seqK_r, andK_t, andK_f, orK_f, orK_t, iteK_t, iteK_f, asgK_nm, asgK_t2, asgK_t3, endF_n, endF_r, slI_i, toBl_b, vw_i, vw_b, vw_t, vw_tI, vw_tT, vw_l, vw_s, vw_n, vw_ty, src_t, src_tI, src_tT, src_l, bin_add, bin_sub, neg_i, not_b, R.bind_assoc, e_isx, e_isv, e_lm, e_rngT1, e_rngT2, e_dget, e_din, e_dict, e_dictZ, e_callC, i_enm, s_app, seeL_l, lmK_l, enmK_t, e_lstC, e_addC, Int.toNat_natCast]
    · obtain ⟨rfl, t1, rfl⟩ := hI
      refine ⟨_, rfl, ?_⟩
      have hi := (List.getElem?_eq_some_iff.mp hx).1
      rw [List.length_range] at hi
      have ha : a = i := by
        rw [List.getElem?_range hi] at hx
        cases hx
        rfl
      subst ha
      have hsl := subs_len a
      have h7 : 2 ^ a ≤ 2 ^ 7 := Nat.pow_le_pow_right (by decide) (by omega)
      simp only [b__law_lots_1, e_var, e_cst, e_ty, e_gfn, e_bin, e_cmp, e_chn, e_neg, e_nt, e_one, e_and, e_or, e_ite, e_tup, e_lst, e_idx, e_slc, o_none, o_some, e_call, e_blt, e_isi, a_nil, a_cons, i_of, i_rng, c_none, c_some, s_set, s_setLc, s_asg, s_par, s_stI, s_ex, s_ret, s_if, s_rai, s_pass, b_nil, b_cons, M.opt_some, R.bind_ok, R.bind_exc, getE_0, getE_s, List.map_cons, List.map_nil, List.cons_append, List.nil_append, List.length_cons, List.length_nil, List.replicate_succ, List.replicate_zero, Nat.reduceSub, Nat.reduceAdd, List.set_cons_zero, List.set_cons_succ, Option.map_some, BT.nm, wipeE, seqK_n, seqK_r, andK_t, andK_f, orK_f, orK_t, iteK_t, iteK_f, asgK_nm, asgK_t2, asgK_t3, endF_n, endF_r, slI_i, toBl_b, vw_i, vw_b, vw_t, vw_tI, vw_tT, vw_l, vw_s, vw_n, vw_ty, src_t, src_tI, src_tT, src_l, bin_add, bin_sub, neg_i, not_b, R.bind_assoc, e_isx, e_isv, e_lm, e_rngT1, e_rngT2, e_dget, e_din, e_dict, e_dictZ, e_callC, i_enm, s_app, seeL_l, lmK_l, enmK_t, e_lstC, e_addC]
      rw [lcE_map (subs a) tI (fun r => tI (r ++ [(a : Int)])) (by simp only [e_var, e_cst, e_ty, e_gfn, e_bin, e_cmp, e_chn, e_neg, e_nt, e_one, e_and, e_or, e_ite, e_tup, e_lst, e_idx, e_slc, o_none, o_some, e_call, e_blt, e_isi, a_nil, a_cons, i_of, i_rng, c_none, c_some, s_set, s_setLc, s_asg, s_par, s_stI, s_ex, s_ret, s_if, s_rai, s_pass, b_nil, b_cons, M.opt_some, R.bind_ok, R.bind_exc, getE_0, getE_s, List.map_cons, List.map_nil, List.cons_append, List.nil_append, List.length_cons, List.length_nil, List.replicate_succ, List.replicate_zero, Nat.reduceSub, Nat.reduceAdd, List.set_cons_zero, List.set_cons_succ, Option.map_some, BT.nm, wipeE, seqK_n, seqK_r, andK_t, andK_f, orK_f, orK_t, iteK_t, iteK_f, asgK_nm, asgK_t2, asgK_t3, endF_n, endF_r, slI_i, toBl_b, vw_i, vw_b, vw_t, vw_tI, vw_tT, vw_l, vw_s, vw_n, vw_ty, src_t, src_tI, src_tT, src_l, bin_add, bin_sub, neg_i, not_b, R.bind_assoc, e_isx, e_isv, e_lm, e_rngT1, e_rngT2, e_dget, e_din, e_dict, e_dictZ, e_callC, i_enm, s_app, seeL_l, lmK_l, enmK_t, e_lstC, e_addC]) (fun r hr => ⟨_, rfl, by
        have := subs_small a r hr
        have hb : (r.map D.int).length + [D.int (a : Int)].length ≤ line := by
          rw [List.length_map]
          show r.length + 1 ≤ 16777216
          omega
        simp only [e_var, e_cst, e_ty, e_gfn, e_bin, e_cmp, e_chn, e_neg, e_nt, e_one, e_and, e_or, e_ite, e_tup, e_lst, e_idx, e_slc, o_none, o_some, e_call, e_blt, e_isi, a_nil, a_cons, i_of, i_rng, c_none, c_some, s_set, s_setLc, s_asg, s_par, s_stI, s_ex, s_ret, s_if, s_rai, s_pass, b_nil, b_cons, M.opt_some, R.bind_ok, R.bind_exc, getE_0, getE_s, List.map_cons, List.map_nil, List.cons_append, List.nil_append, List.length_cons, List.length_nil, List.replicate_succ, List.replicate_zero, Nat.reduceSub, Nat.reduceAdd, List.set_cons_zero, List.set_cons_succ, Option.map_some, BT.nm, wipeE, seqK_n, seqK_r, andK_t, andK_f, orK_f, orK_t, iteK_t, iteK_f, asgK_nm, asgK_t2, asgK_t3, endF_n, endF_r, slI_i, toBl_b, vw_i, vw_b, vw_t, vw_tI, vw_tT, vw_l, vw_s, vw_n, vw_ty, src_t, src_tI, src_tT, src_l, bin_add, bin_sub, neg_i, not_b, R.bind_assoc, e_isx, e_isv, e_lm, e_rngT1, e_rngT2, e_dget, e_din, e_dict, e_dictZ, e_callC, i_enm, s_app, seeL_l, lmK_l, enmK_t, e_lstC, e_addC, tI]
        rw [bin_addT hb]
        simp [tI]⟩)]
      simp only [e_var, e_cst, e_ty, e_gfn, e_bin, e_cmp, e_chn, e_neg, e_nt, e_one, e_and, e_or, e_ite, e_tup, e_lst, e_idx, e_slc, o_none, o_some, e_call, e_blt, e_isi, a_nil, a_cons, i_of, i_rng, c_none, c_some, s_set, s_setLc, s_asg, s_par, s_stI, s_ex, s_ret, s_if, s_rai, s_pass, b_nil, b_cons, M.opt_some, R.bind_ok, R.bind_exc, getE_0, getE_s, List.map_cons, List.map_nil, List.cons_append, List.nil_append, List.length_cons, List.length_nil, List.replicate_succ, List.replicate_zero, Nat.reduceSub, Nat.reduceAdd, List.set_cons_zero, List.set_cons_succ, Option.map_some, BT.nm, wipeE, seqK_n, seqK_r, andK_t, andK_f, orK_f, orK_t, iteK_t, iteK_f, asgK_nm, asgK_t2, asgK_t3, endF_n, endF_r, slI_i, toBl_b, vw_i, vw_b, vw_t, vw_tI, vw_tT, vw_l, vw_s, vw_n, vw_ty, src_t, src_tI, src_tT, src_l, bin_add, bin_sub, neg_i, not_b, R.bind_assoc, e_isx, e_isv, e_lm, e_rngT1, e_rngT2, e_dget, e_din, e_dict, e_dictZ, e_callC, i_enm, s_app, seeL_l, lmK_l, enmK_t, e_lstC, e_addC]
      rw [bin_addL (by
        rw [List.length_map, List.length_map]
        show (subs a).length + (subs a).length ≤ 16777216
        omega)]
      simp only [e_var, e_cst, e_ty, e_gfn, e_bin, e_cmp, e_chn, e_neg, e_nt, e_one, e_and, e_or, e_ite, e_tup, e_lst, e_idx, e_slc, o_none, o_some, e_call, e_blt, e_isi, a_nil, a_cons, i_of, i_rng, c_none, c_some, s_set, s_setLc, s_asg, s_par, s_stI, s_ex, s_ret, s_if, s_rai, s_pass, b_nil, b_cons, M.opt_some, R.bind_ok, R.bind_exc, getE_0, getE_s, List.map_cons, List.map_nil, List.cons_append, List.nil_append, List.length_cons, List.length_nil, List.replicate_succ, List.replicate_zero, Nat.reduceSub, Nat.reduceAdd, List.set_cons_zero, List.set_cons_succ, Option.map_some, BT.nm, wipeE, seqK_n, seqK_r, andK_t, andK_f, orK_f, orK_t, iteK_t, iteK_f, asgK_nm, asgK_t2, asgK_t3, endF_n, endF_r, slI_i, toBl_b, vw_i, vw_b, vw_t, vw_tI, vw_tT, vw_l, vw_s, vw_n, vw_ty, src_t, src_tI, src_tT, src_l, bin_add, bin_sub, neg_i, not_b, R.bind_assoc, e_isx, e_isv, e_lm, e_rngT1, e_rngT2, e_dget, e_din, e_dict, e_dictZ, e_callC, i_enm, s_app, seeL_l, lmK_l, enmK_t, e_lstC, e_addC]
      refine ⟨_, rfl, rfl, some (.int (a : Int)), ?_⟩
      show _ = [some (D.int (t : Int)), some (.lst ((subs a ++ (subs a).map fun r => r ++ [(a : Int)]).map tI)), some (D.int (a : Int)), none, none]
      rw [List.map_append, List.map_map]
      rfl
  obtain ⟨fl, S', e, ρ', rfl, rfl, t1, rfl⟩ := key.get
  rw [List.length_range] at e
  rw [rf_eq h]
  simp only [b__law_lots, e_var, e_cst, e_ty, e_gfn, e_bin, e_cmp, e_chn, e_neg, e_nt, e_one, e_and, e_or, e_ite, e_tup, e_lst, e_idx, e_slc, o_none, o_some, e_call, e_blt, e_isi, a_nil, a_cons, i_of, i_rng, c_none, c_some, s_set, s_setLc, s_asg, s_par, s_stI, s_ex, s_ret, s_if, s_rai, s_pass, b_nil, b_cons, M.opt_some, R.bind_ok, R.bind_exc, getE_0, getE_s, List.map_cons, List.map_nil, List.cons_append, List.nil_append, List.length_cons, List.length_nil, List.replicate_succ, List.replicate_zero, Nat.reduceSub, Nat.reduceAdd, List.set_cons_zero, List.set_cons_succ, Option.map_some, BT.nm, wipeE, seqK_n, seqK_r, andK_t, andK_f, orK_f, orK_t, iteK_t, iteK_f, asgK_nm, asgK_t2, asgK_t3, endF_n, endF_r, slI_i, toBl_b, vw_i, vw_b, vw_t, vw_tI, vw_tT, vw_l, vw_s, vw_n, vw_ty, src_t, src_tI, src_tT, src_l, bin_add, bin_sub, neg_i, not_b, R.bind_assoc, e_isx, e_isv, e_lm, e_rngT1, e_rngT2, e_dget, e_din, e_dict, e_dictZ, e_callC, i_enm, s_app, seeL_l, lmK_l, enmK_t, e_lstC, e_addC]
  rw [e]
  simp only [e_var, e_cst, e_ty, e_gfn, e_bin, e_cmp, e_chn, e_neg, e_nt, e_one, e_and, e_or, e_ite, e_tup, e_lst, e_idx, e_slc, o_none, o_some, e_call, e_blt, e_isi, a_nil, a_cons, i_of, i_rng, c_none, c_some, s_set, s_setLc, s_asg, s_par, s_stI, s_ex, s_ret, s_if, s_rai, s_pass, b_nil, b_cons, M.opt_some, R.bind_ok, R.bind_exc, getE_0, getE_s, List.map_cons, List.map_nil, List.cons_append, List.nil_append, List.length_cons, List.length_nil, List.replicate_succ, List.replicate_zero, Nat.reduceSub, Nat.reduceAdd, List.set_cons_zero, List.set_cons_succ, Option.map_some, BT.nm, wipeE, seqK_n, seqK_r, andK_t, andK_f, orK_f, orK_t, iteK_t, iteK_f, asgK_nm, asgK_t2, asgK_t3, endF_n, endF_r, slI_i, toBl_b, vw_i, vw_b, vw_t, vw_tI, vw_tT, vw_l, vw_s, vw_n, vw_ty, src_t, src_tI, src_tT, src_l, bin_add, bin_sub, neg_i, not_b, R.bind_assoc, e_isx, e_isv, e_lm, e_rngT1, e_rngT2, e_dget, e_din, e_dict, e_dictZ, e_callC, i_enm, s_app, seeL_l, lmK_l, enmK_t, e_lstC, e_addC]
  have inner : ∀ ρ', evE (runF fs k) (.lc [3] (.of (.var 1)) (.nm 3) .none (.tup (.cons (.blt .len (.cons (.var 3) .nil)) (.cons (.var 3) .nil)))) [some (.int t), some (.lst ((subs t).map tI)), ρ', none, none] S' = .ok (.lst ((subs t).map sizeD)) S' := by
    intro ρ'
    rw [lcE_map (subs t) tI sizeD (by simp only [e_var, e_cst, e_ty, e_gfn, e_bin, e_cmp, e_chn, e_neg, e_nt, e_one, e_and, e_or, e_ite, e_tup, e_lst, e_idx, e_slc, o_none, o_some, e_call, e_blt, e_isi, a_nil, a_cons, i_of, i_rng, c_none, c_some, s_set, s_setLc, s_asg, s_par, s_stI, s_ex, s_ret, s_if, s_rai, s_pass, b_nil, b_cons, M.opt_some, R.bind_ok, R.bind_exc, getE_0, getE_s, List.map_cons, List.map_nil, List.cons_append, List.nil_append, List.length_cons, List.length_nil, List.replicate_succ, List.replicate_zero, Nat.reduceSub, Nat.reduceAdd, List.set_cons_zero, List.set_cons_succ, Option.map_some, BT.nm, wipeE, seqK_n, seqK_r, andK_t, andK_f, orK_f, orK_t, iteK_t, iteK_f, asgK_nm, asgK_t2, asgK_t3, endF_n, endF_r, slI_i, toBl_b, vw_i, vw_b, vw_t, vw_tI, vw_tT, vw_l, vw_s, vw_n, vw_ty, src_t, src_tI, src_tT, src_l, bin_add, bin_sub, neg_i, not_b, R.bind_assoc, e_isx, e_isv, e_lm, e_rngT1, e_rngT2, e_dget, e_din, e_dict, e_dictZ, e_callC, i_enm, s_app, seeL_l, lmK_l, enmK_t, e_lstC, e_addC]) (fun r hr => ⟨_, rfl, by simp only [e_var, e_cst, e_ty, e_gfn, e_bin, e_cmp, e_chn, e_neg, e_nt, e_one, e_and, e_or, e_ite, e_tup, e_lst, e_idx, e_slc, o_none, o_some, e_call, e_blt, e_isi, a_nil, a_cons, i_of, i_rng, c_none, c_some, s_set, s_setLc, s_asg, s_par, s_stI, s_ex, s_ret, s_if, s_rai, s_pass, b_nil, b_cons, M.opt_some, R.bind_ok, R.bind_exc, getE_0, getE_s, List.map_cons, List.map_nil, List.cons_append, List.nil_append, List.length_cons, List.length_nil, List.replicate_succ, List.replicate_zero, Nat.reduceSub, Nat.reduceAdd, List.set_cons_zero, List.set_cons_succ, Option.map_some, BT.nm, wipeE, seqK_n, seqK_r, andK_t, andK_f, orK_f, orK_t, iteK_t, iteK_f, asgK_nm, asgK_t2, asgK_t3, endF_n, endF_r, slI_i, toBl_b, vw_i, vw_b, vw_t, vw_tI, vw_tT, vw_l, vw_s, vw_n, vw_ty, src_t, src_tI, src_tT, src_l, bin_add, bin_sub, neg_i, not_b, R.bind_assoc, e_isx, e_isv, e_lm, e_rngT1, e_rngT2, e_dget, e_din, e_dict, e_dictZ, e_callC, i_enm, s_app, seeL_l, lmK_l, enmK_t, e_lstC, e_addC, len_tI]; rfl⟩)]
  rw [lcE_eq ([] :: lotsP t) sizeD (fun L => decide (0 < L.length)) tI (by
    simp only [e_var, e_cst, e_ty, e_gfn, e_bin, e_cmp, e_chn, e_neg, e_nt, e_one, e_and, e_or, e_ite, e_tup, e_lst, e_idx, e_slc, o_none, o_some, e_call, e_blt, e_isi, a_nil, a_cons, i_of, i_rng, c_none, c_some, s_set, s_setLc, s_asg, s_par, s_stI, s_ex, s_ret, s_if, s_rai, s_pass, b_nil, b_cons, M.opt_some, R.bind_ok, R.bind_exc, getE_0, getE_s, List.map_cons, List.map_nil, List.cons_append, List.nil_append, List.length_cons, List.length_nil, List.replicate_succ, List.replicate_zero, Nat.reduceSub, Nat.reduceAdd, List.set_cons_zero, List.set_cons_succ, Option.map_some, BT.nm, wipeE, seqK_n, seqK_r, andK_t, andK_f, orK_f, orK_t, iteK_t, iteK_f, asgK_nm, asgK_t2, asgK_t3, endF_n, endF_r, slI_i, toBl_b, vw_i, vw_b, vw_t, vw_tI, vw_tT, vw_l, vw_s, vw_n, vw_ty, src_t, src_tI, src_tT, src_l, bin_add, bin_sub, neg_i, not_b, R.bind_assoc, e_isx, e_isv, e_lm, e_rngT1, e_rngT2, e_dget, e_din, e_dict, e_dictZ, e_callC, i_enm, s_app, seeL_l, lmK_l, enmK_t, e_lstC, e_addC]
    rw [inner]
    simp only [e_var, e_cst, e_ty, e_gfn, e_bin, e_cmp, e_chn, e_neg, e_nt, e_one, e_and, e_or, e_ite, e_tup, e_lst, e_idx, e_slc, o_none, o_some, e_call, e_blt, e_isi, a_nil, a_cons, i_of, i_rng, c_none, c_some, s_set, s_setLc, s_asg, s_par, s_stI, s_ex, s_ret, s_if, s_rai, s_pass, b_nil, b_cons, M.opt_some, R.bind_ok, R.bind_exc, getE_0, getE_s, List.map_cons, List.map_nil, List.cons_append, List.nil_append, List.length_cons, List.length_nil, List.replicate_succ, List.replicate_zero, Nat.reduceSub, Nat.reduceAdd, List.set_cons_zero, List.set_cons_succ, Option.map_some, BT.nm, wipeE, seqK_n, seqK_r, andK_t, andK_f, orK_f, orK_t, iteK_t, iteK_f, asgK_nm, asgK_t2, asgK_t3, endF_n, endF_r, slI_i, toBl_b, vw_i, vw_b, vw_t, vw_tI, vw_tT, vw_l, vw_s, vw_n, vw_ty, src_t, src_tI, src_tT, src_l, bin_add, bin_sub, neg_i, not_b, R.bind_assoc, e_isx, e_isv, e_lm, e_rngT1, e_rngT2, e_dget, e_din, e_dict, e_dictZ, e_callC, i_enm, s_app, seeL_l, lmK_l, enmK_t, e_lstC, e_addC]
    rw [sorted_l (lots_ok t hr), sort_lots ht]
    simp only [e_var, e_cst, e_ty, e_gfn, e_bin, e_cmp, e_chn, e_neg, e_nt, e_one, e_and, e_or, e_ite, e_tup, e_lst, e_idx, e_slc, o_none, o_some, e_call, e_blt, e_isi, a_nil, a_cons, i_of, i_rng, c_none, c_some, s_set, s_setLc, s_asg, s_par, s_stI, s_ex, s_ret, s_if, s_rai, s_pass, b_nil, b_cons, M.opt_some, R.bind_ok, R.bind_exc, getE_0, getE_s, List.map_cons, List.map_nil, List.cons_append, List.nil_append, List.length_cons, List.length_nil, List.replicate_succ, List.replicate_zero, Nat.reduceSub, Nat.reduceAdd, List.set_cons_zero, List.set_cons_succ, Option.map_some, BT.nm, wipeE, seqK_n, seqK_r, andK_t, andK_f, orK_f, orK_t, iteK_t, iteK_f, asgK_nm, asgK_t2, asgK_t3, endF_n, endF_r, slI_i, toBl_b, vw_i, vw_b, vw_t, vw_tI, vw_tT, vw_l, vw_s, vw_n, vw_ty, src_t, src_tI, src_tT, src_l, bin_add, bin_sub, neg_i, not_b, R.bind_assoc, e_isx, e_isv, e_lm, e_rngT1, e_rngT2, e_dget, e_din, e_dict, e_dictZ, e_callC, i_enm, s_app, seeL_l, lmK_l, enmK_t, e_lstC, e_addC]) (fun L hL => ⟨_, rfl, by
      simp only [e_var, e_cst, e_ty, e_gfn, e_bin, e_cmp, e_chn, e_neg, e_nt, e_one, e_and, e_or, e_ite, e_tup, e_lst, e_idx, e_slc, o_none, o_some, e_call, e_blt, e_isi, a_nil, a_cons, i_of, i_rng, c_none, c_some, s_set, s_setLc, s_asg, s_par, s_stI, s_ex, s_ret, s_if, s_rai, s_pass, b_nil, b_cons, M.opt_some, R.bind_ok, R.bind_exc, getE_0, getE_s, List.map_cons, List.map_nil, List.cons_append, List.nil_append, List.length_cons, List.length_nil, List.replicate_succ, List.replicate_zero, Nat.reduceSub, Nat.reduceAdd, List.set_cons_zero, List.set_cons_succ, Option.map_some, BT.nm, wipeE, seqK_n, seqK_r, andK_t, andK_f, orK_f, orK_t, iteK_t, iteK_f, asgK_nm, asgK_t2, asgK_t3, endF_n, endF_r, slI_i, toBl_b, vw_i, vw_b, vw_t, vw_tI, vw_tT, vw_l, vw_s, vw_n, vw_ty, src_t, src_tI, src_tT, src_l, bin_add, bin_sub, neg_i, not_b, R.bind_assoc, e_isx, e_isv, e_lm, e_rngT1, e_rngT2, e_dget, e_din, e_dict, e_dictZ, e_callC, i_enm, s_app, seeL_l, lmK_l, enmK_t, e_lstC, e_addC, cmp_gt]
      congr 1
      congr 1
      simp, fun _ => by simp only [e_var, e_cst, e_ty, e_gfn, e_bin, e_cmp, e_chn, e_neg, e_nt, e_one, e_and, e_or, e_ite, e_tup, e_lst, e_idx, e_slc, o_none, o_some, e_call, e_blt, e_isi, a_nil, a_cons, i_of, i_rng, c_none, c_some, s_set, s_setLc, s_asg, s_par, s_stI, s_ex, s_ret, s_if, s_rai, s_pass, b_nil, b_cons, M.opt_some, R.bind_ok, R.bind_exc, getE_0, getE_s, List.map_cons, List.map_nil, List.cons_append, List.nil_append, List.length_cons, List.length_nil, List.replicate_succ, List.replicate_zero, Nat.reduceSub, Nat.reduceAdd, List.set_cons_zero, List.set_cons_succ, Option.map_some, BT.nm, wipeE, seqK_n, seqK_r, andK_t, andK_f, orK_f, orK_t, iteK_t, iteK_f, asgK_nm, asgK_t2, asgK_t3, endF_n, endF_r, slI_i, toBl_b, vw_i, vw_b, vw_t, vw_tI, vw_tT, vw_l, vw_s, vw_n, vw_ty, src_t, src_tI, src_tT, src_l, bin_add, bin_sub, neg_i, not_b, R.bind_assoc, e_isx, e_isv, e_lm, e_rngT1, e_rngT2, e_dget, e_din, e_dict, e_dictZ, e_callC, i_enm, s_app, seeL_l, lmK_l, enmK_t, e_lstC, e_addC]⟩)]
  simp only [e_var, e_cst, e_ty, e_gfn, e_bin, e_cmp, e_chn, e_neg, e_nt, e_one, e_and, e_or, e_ite, e_tup, e_lst, e_idx, e_slc, o_none, o_some, e_call, e_blt, e_isi, a_nil, a_cons, i_of, i_rng, c_none, c_some, s_set, s_setLc, s_asg, s_par, s_stI, s_ex, s_ret, s_if, s_rai, s_pass, b_nil, b_cons, M.opt_some, R.bind_ok, R.bind_exc, getE_0, getE_s, List.map_cons, List.map_nil, List.cons_append, List.nil_append, List.length_cons, List.length_nil, List.replicate_succ, List.replicate_zero, Nat.reduceSub, Nat.reduceAdd, List.set_cons_zero, List.set_cons_succ, Option.map_some, BT.nm, wipeE, seqK_n, seqK_r, andK_t, andK_f, orK_f, orK_t, iteK_t, iteK_f, asgK_nm, asgK_t2, asgK_t3, endF_n, endF_r, slI_i, toBl_b, vw_i, vw_b, vw_t, vw_tI, vw_tT, vw_l, vw_s, vw_n, vw_ty, src_t, src_tI, src_tT, src_l, bin_add, bin_sub, neg_i, not_b, R.bind_assoc, e_isx, e_isv, e_lm, e_rngT1, e_rngT2, e_dget, e_din, e_dict, e_dictZ, e_callC, i_enm, s_app, seeL_l, lmK_l, enmK_t, e_lstC, e_addC]
  have e2 : ([] :: lotsP t).filter (fun L => decide (0 < L.length)) = lotsP t := by
    rw [List.filter_cons]
    simp only [List.length_nil, Nat.lt_irrefl, decide_false]
    exact List.filter_eq_self.mpr fun L hL => List.all_eq_true.mp (lots_pos t hr) L hL
  rw [e2]
theorem r_law_all (h : fs "_law_all" = some ⟨2, 7, b__law_all⟩) (h0 : 0 ≤ n) (h7 : n ≤ 7) : runF fs (k + 1) "_law_all" [.int n, tI [-1, 1]] S = .ok (.lst ((rows n.toNat).map tI)) S := by
  rw [rf_eq h]
  have h1 : Wp (exS (runF fs k) (.for_ (.rng (.cons (.var 0) .nil)) (.nm 3) (.cons (.set 4 (.lst .nil))
    (.cons (.for_ (.of (.var 2)) (.nm 5) (.cons (.set 4 (.bin .Add (.var 4) (.lc [6] (.of (.var 1)) (.nm 6) .none (.bin .Add (.var 5) (.tup (.cons (.var 6) .nil))))))
    .nil))
    (.cons (.set 2 (.var 4))
    .nil)))) [some (.int n), some (tI [-1, 1]), some (.lst [.tup []]), none, none, none, none] S) (fun f S' => S' = S ∧ ∃ t1 t2 t3 t4, f = .nx [some (.int n), some (tI [-1, 1]), some (.lst ((rows n.toNat).map tI)), t1, t2, t3, t4]) := by
    rw [s_for]
    refine wp_for (xs := (List.range n.toNat).map fun i : Nat => D.int (i : Int)) (S1 := S) (by simp only [e_var, e_cst, e_ty, e_gfn, e_bin, e_cmp, e_chn, e_neg, e_nt, e_one, e_and, e_or, e_ite, e_tup, e_lst, e_idx, e_slc, o_none, o_some, e_call, e_blt, e_isi, a_nil, a_cons, i_of, i_rng, c_none, c_some, s_set, s_setLc, s_asg, s_par, s_stI, s_ex, s_ret, s_if, s_rai, s_pass, b_nil, b_cons, M.opt_some, R.bind_ok, R.bind_exc, getE_0, getE_s, List.map_cons, List.map_nil, List.cons_append, List.nil_append, List.length_cons, List.length_nil, List.replicate_succ, List.replicate_zero, Nat.reduceSub, Nat.reduceAdd, List.set_cons_zero, List.set_cons_succ, Option.map_some, BT.nm, wipeE, seqK_n, seqK_r, andK_t, andK_f, orK_f, orK_t, iteK_t, iteK_f, asgK_nm, asgK_t2, asgK_t3, endF_n, endF_r, slI_i, toBl_b, vw_i, vw_b, vw_t, vw_tI, vw_tT, vw_l, vw_s, vw_n, vw_ty, src_t, src_tI, src_tT, src_l, bin_add, bin_sub, neg_i, not_b, R.bind_assoc, e_isx, e_isv, e_lm, e_rngT1, e_rngT2, e_dget, e_din, e_dict, e_dictZ, e_callC, i_enm, s_app, seeL_l, lmK_l, enmK_t, e_lstC, e_addC]; rw [rng_1 (by omega), rangeD_n]; simp only [e_var, e_cst, e_ty, e_gfn, e_bin, e_cmp, e_chn, e_neg, e_nt, e_one, e_and, e_or, e_ite, e_tup, e_lst, e_idx, e_slc, o_none, o_some, e_call, e_blt, e_isi, a_nil, a_cons, i_of, i_rng, c_none, c_some, s_set, s_setLc, s_asg, s_par, s_stI, s_ex, s_ret, s_if, s_rai, s_pass, b_nil, b_cons, M.opt_some, R.bind_ok, R.bind_exc, getE_0, getE_s, List.map_cons, List.map_nil, List.cons_append, List.nil_append, List.length_cons, List.length_nil, List.replicate_succ, List.replicate_zero, Nat.reduceSub, Nat.reduceAdd, List.set_cons_zero, List.set_cons_succ, Option.map_some, BT.nm, wipeE, seqK_n, seqK_r, andK_t, andK_f, orK_f, orK_t, iteK_t, iteK_f, asgK_nm, asgK_t2, asgK_t3, endF_n, endF_r, slI_i, toBl_b, vw_i, vw_b, vw_t, vw_tI, vw_tT, vw_l, vw_s, vw_n, vw_ty, src_t, src_tI, src_tT, src_l, bin_add, bin_sub, neg_i, not_b, R.bind_assoc, e_isx, e_isv, e_lm, e_rngT1, e_rngT2, e_dget, e_din, e_dict, e_dictZ, e_callC, i_enm, s_app, seeL_l, lmK_l, enmK_t, e_lstC, e_addC]) (fun i ρ S' => S' = S ∧ ∃ t1 t2 t3 t4, ρ = [some (.int n), some (tI [-1, 1]), some (.lst ((rows i).map tI)), t1, t2, t3, t4]) _ ⟨rfl, none, none, none, none, rfl⟩ (fun i d ρ S' hx hI => ?_) (fun ρ S' hI => ?_)
    · obtain ⟨rfl, t1, t2, t3, t4, rfl⟩ := hI
      refine ⟨_, rfl, ?_⟩
      have hi : i < n.toNat := by
        have := (List.getElem?_eq_some_iff.mp hx).1
        simpa using this
      have h2 : Wp (exS (runF fs k) (.for_ (.of (.var 2)) (.nm 5) (.cons (.set 4 (.bin .Add (.var 4) (.lc [6] (.of (.var 1)) (.nm 6) .none (.bin .Add (.var 5) (.tup (.cons (.var 6) .nil))))))
    .nil)) [some (.int n), some (tI [-1, 1]), some (.lst ((rows i).map tI)), some d, some (.lst []), t3, t4] S') (fun f S2 => S2 = S' ∧ ∃ t3 t4, f = .nx [some (.int n), some (tI [-1, 1]), some (.lst ((rows i).map tI)), some d, some (.lst ((rows (i + 1)).map tI)), t3, t4]) := by
        rw [s_for]
        refine wp_for (xs := (rows i).map tI) (S1 := S') (by simp only [e_var, e_cst, e_ty, e_gfn, e_bin, e_cmp, e_chn, e_neg, e_nt, e_one, e_and, e_or, e_ite, e_tup, e_lst, e_idx, e_slc, o_none, o_some, e_call, e_blt, e_isi, a_nil, a_cons, i_of, i_rng, c_none, c_some, s_set, s_setLc, s_asg, s_par, s_stI, s_ex, s_ret, s_if, s_rai, s_pass, b_nil, b_cons, M.opt_some, R.bind_ok, R.bind_exc, getE_0, getE_s, List.map_cons, List.map_nil, List.cons_append, List.nil_append, List.length_cons, List.length_nil, List.replicate_succ, List.replicate_zero, Nat.reduceSub, Nat.reduceAdd, List.set_cons_zero, List.set_cons_succ, Option.map_some, BT.nm, wipeE, seqK_n, seqK_r, andK_t, andK_f, orK_f, orK_t, iteK_t, iteK_f, asgK_nm, asgK_t2, asgK_t3, endF_n, endF_r, slI_i, toBl_b, vw_i, vw_b, vw_t, vw_tI, vw_tT, vw_l, vw_s, vw_n, vw_ty, src_t, src_tI, src_tT, src_l, bin_add, bin_sub, neg_i, not_b, R.bind_assoc, e_isx, e_isv, e_lm, e_rngT1, e_rngT2, e_dget, e_din, e_dict, e_dictZ, e_callC, i_enm, s_app, seeL_l, lmK_l, enmK_t, e_lstC, e_addC]) (fun j ρ S2 => S2 = S' ∧ ∃ t3 t4, ρ = [some (.int n), some (tI [-1, 1]), some (.lst ((rows i).map tI)), some d, some (.lst ((((rows i).take j).flatMap fun r => [r ++ [-1], r ++ [1]]).map tI)), t3, t4]) _ ⟨rfl, t3, t4, rfl⟩ (fun j d2 ρ S2 hx2 hI => ?_) (fun ρ S2 hI => ?_)
        · obtain ⟨rfl, t3, t4, rfl⟩ := hI
          refine ⟨_, rfl, ?_⟩
          rw [List.getElem?_map] at hx2
          cases q : (rows i)[j]? with
          | none => rw [q] at hx2; cases hx2
          | some r =>
            rw [q] at hx2
            cases hx2
            have hr := List.mem_of_getElem? q
            have hl := ((rows_ok i r).mp hr).1
            simp only [e_var, e_cst, e_ty, e_gfn, e_bin, e_cmp, e_chn, e_neg, e_nt, e_one, e_and, e_or, e_ite, e_tup, e_lst, e_idx, e_slc, o_none, o_some, e_call, e_blt, e_isi, a_nil, a_cons, i_of, i_rng, c_none, c_some, s_set, s_setLc, s_asg, s_par, s_stI, s_ex, s_ret, s_if, s_rai, s_pass, b_nil, b_cons, M.opt_some, R.bind_ok, R.bind_exc, getE_0, getE_s, List.map_cons, List.map_nil, List.cons_append, List.nil_append, List.length_cons, List.length_nil, List.replicate_succ, List.replicate_zero, Nat.reduceSub, Nat.reduceAdd, List.set_cons_zero, List.set_cons_succ, Option.map_some, BT.nm, wipeE, seqK_n, seqK_r, andK_t, andK_f, orK_f, orK_t, iteK_t, iteK_f, asgK_nm, asgK_t2, asgK_t3, endF_n, endF_r, slI_i, toBl_b, vw_i, vw_b, vw_t, vw_tI, vw_tT, vw_l, vw_s, vw_n, vw_ty, src_t, src_tI, src_tT, src_l, bin_add, bin_sub, neg_i, not_b, R.bind_assoc, e_isx, e_isv, e_lm, e_rngT1, e_rngT2, e_dget, e_din, e_dict, e_dictZ, e_callC, i_enm, s_app, seeL_l, lmK_l, enmK_t, e_lstC, e_addC]
            rw [lcE_map [(-1 : Int), 1] D.int (fun x => tI (r ++ [x])) (by simp only [e_var, e_cst, e_ty, e_gfn, e_bin, e_cmp, e_chn, e_neg, e_nt, e_one, e_and, e_or, e_ite, e_tup, e_lst, e_idx, e_slc, o_none, o_some, e_call, e_blt, e_isi, a_nil, a_cons, i_of, i_rng, c_none, c_some, s_set, s_setLc, s_asg, s_par, s_stI, s_ex, s_ret, s_if, s_rai, s_pass, b_nil, b_cons, M.opt_some, R.bind_ok, R.bind_exc, getE_0, getE_s, List.map_cons, List.map_nil, List.cons_append, List.nil_append, List.length_cons, List.length_nil, List.replicate_succ, List.replicate_zero, Nat.reduceSub, Nat.reduceAdd, List.set_cons_zero, List.set_cons_succ, Option.map_some, BT.nm, wipeE, seqK_n, seqK_r, andK_t, andK_f, orK_f, orK_t, iteK_t, iteK_f, asgK_nm, asgK_t2, asgK_t3, endF_n, endF_r, slI_i, toBl_b, vw_i, vw_b, vw_t, vw_tI, vw_tT, vw_l, vw_s, vw_n, vw_ty, src_t, src_tI, src_tT, src_l, bin_add, bin_sub, neg_i, not_b, R.bind_assoc, e_isx, e_isv, e_lm, e_rngT1, e_rngT2, e_dget, e_din, e_dict, e_dictZ, e_callC, i_enm, s_app, seeL_l, lmK_l, enmK_t, e_lstC, e_addC]) (fun x hx => ⟨_, rfl, by
              have hb : (r.map D.int).length + [D.int x].length ≤ line := by
                rw [List.length_map]
                show r.length + 1 ≤ 16777216
                omega
              simp only [e_var, e_cst, e_ty, e_gfn, e_bin, e_cmp, e_chn, e_neg, e_nt, e_one, e_and, e_or, e_ite, e_tup, e_lst, e_idx, e_slc, o_none, o_some, e_call, e_blt, e_isi, a_nil, a_cons, i_of, i_rng, c_none, c_some, s_set, s_setLc, s_asg, s_par, s_stI, s_ex, s_ret, s_if, s_rai, s_pass, b_nil, b_cons, M.opt_some, R.bind_ok, R.bind_exc, getE_0, getE_s, List.map_cons, List.map_nil, List.cons_append, List.nil_append, List.length_cons, List.length_nil, List.replicate_succ, List.replicate_zero, Nat.reduceSub, Nat.reduceAdd, List.set_cons_zero, List.set_cons_succ, Option.map_some, BT.nm, wipeE, seqK_n, seqK_r, andK_t, andK_f, orK_f, orK_t, iteK_t, iteK_f, asgK_nm, asgK_t2, asgK_t3, endF_n, endF_r, slI_i, toBl_b, vw_i, vw_b, vw_t, vw_tI, vw_tT, vw_l, vw_s, vw_n, vw_ty, src_t, src_tI, src_tT, src_l, bin_add, bin_sub, neg_i, not_b, R.bind_assoc, e_isx, e_isv, e_lm, e_rngT1, e_rngT2, e_dget, e_din, e_dict, e_dictZ, e_callC, i_enm, s_app, seeL_l, lmK_l, enmK_t, e_lstC, e_addC, tI]
              rw [bin_addT hb]
              simp [tI]⟩)]
            simp only [e_var, e_cst, e_ty, e_gfn, e_bin, e_cmp, e_chn, e_neg, e_nt, e_one, e_and, e_or, e_ite, e_tup, e_lst, e_idx, e_slc, o_none, o_some, e_call, e_blt, e_isi, a_nil, a_cons, i_of, i_rng, c_none, c_some, s_set, s_setLc, s_asg, s_par, s_stI, s_ex, s_ret, s_if, s_rai, s_pass, b_nil, b_cons, M.opt_some, R.bind_ok, R.bind_exc, getE_0, getE_s, List.map_cons, List.map_nil, List.cons_append, List.nil_append, List.length_cons, List.length_nil, List.replicate_succ, List.replicate_zero, Nat.reduceSub, Nat.reduceAdd, List.set_cons_zero, List.set_cons_succ, Option.map_some, BT.nm, wipeE, seqK_n, seqK_r, andK_t, andK_f, orK_f, orK_t, iteK_t, iteK_f, asgK_nm, asgK_t2, asgK_t3, endF_n, endF_r, slI_i, toBl_b, vw_i, vw_b, vw_t, vw_tI, vw_tT, vw_l, vw_s, vw_n, vw_ty, src_t, src_tI, src_tT, src_l, bin_add, bin_sub, neg_i, not_b, R.bind_assoc, e_isx, e_isv, e_lm, e_rngT1, e_rngT2, e_dget, e_din, e_dict, e_dictZ, e_callC, i_enm, s_app, seeL_l, lmK_l, enmK_t, e_lstC, e_addC]
            have hj := (List.getElem?_eq_some_iff.mp q).1
            rw [rows_len] at hj
            have h7' : 2 ^ i ≤ 2 ^ 7 := Nat.pow_le_pow_right (by decide) (by omega)
            rw [bin_addL (by
              rw [List.length_map, List.length_flatMap]
              simp only [List.length_cons, List.length_nil, List.map_const', List.sum_replicate_nat, List.length_take]
              show _ ≤ 16777216
              rw [rows_len]
              omega)]
            simp only [e_var, e_cst, e_ty, e_gfn, e_bin, e_cmp, e_chn, e_neg, e_nt, e_one, e_and, e_or, e_ite, e_tup, e_lst, e_idx, e_slc, o_none, o_some, e_call, e_blt, e_isi, a_nil, a_cons, i_of, i_rng, c_none, c_some, s_set, s_setLc, s_asg, s_par, s_stI, s_ex, s_ret, s_if, s_rai, s_pass, b_nil, b_cons, M.opt_some, R.bind_ok, R.bind_exc, getE_0, getE_s, List.map_cons, List.map_nil, List.cons_append, List.nil_append, List.length_cons, List.length_nil, List.replicate_succ, List.replicate_zero, Nat.reduceSub, Nat.reduceAdd, List.set_cons_zero, List.set_cons_succ, Option.map_some, BT.nm, wipeE, seqK_n, seqK_r, andK_t, andK_f, orK_f, orK_t, iteK_t, iteK_f, asgK_nm, asgK_t2, asgK_t3, endF_n, endF_r, slI_i, toBl_b, vw_i, vw_b, vw_t, vw_tI, vw_tT, vw_l, vw_s, vw_n, vw_ty, src_t, src_tI, src_tT, src_l, bin_add, bin_sub, neg_i, not_b, R.bind_assoc, e_isx, e_isv, e_lm, e_rngT1, e_rngT2, e_dget, e_din, e_dict, e_dictZ, e_callC, i_enm, s_app, seeL_l, lmK_l, enmK_t, e_lstC, e_addC]
            refine ⟨rfl, some (tI r), t4, ?_⟩
            have et : (rows i).take (j + 1) = (rows i).take j ++ [r] := by rw [List.take_add_one, q]; rfl
            rw [et, List.flatMap_append, List.map_append]
            rfl
        · obtain ⟨rfl, t3, t4, rfl⟩ := hI
          rw [List.length_map, List.take_length]
          exact ⟨rfl, t3, t4, rfl⟩
      simp only [e_var, e_cst, e_ty, e_gfn, e_bin, e_cmp, e_chn, e_neg, e_nt, e_one, e_and, e_or, e_ite, e_tup, e_lst, e_idx, e_slc, o_none, o_some, e_call, e_blt, e_isi, a_nil, a_cons, i_of, i_rng, c_none, c_some, s_set, s_setLc, s_asg, s_par, s_stI, s_ex, s_ret, s_if, s_rai, s_pass, b_nil, b_cons, M.opt_some, R.bind_ok, R.bind_exc, getE_0, getE_s, List.map_cons, List.map_nil, List.cons_append, List.nil_append, List.length_cons, List.length_nil, List.replicate_succ, List.replicate_zero, Nat.reduceSub, Nat.reduceAdd, List.set_cons_zero, List.set_cons_succ, Option.map_some, BT.nm, wipeE, seqK_n, seqK_r, andK_t, andK_f, orK_f, orK_t, iteK_t, iteK_f, asgK_nm, asgK_t2, asgK_t3, endF_n, endF_r, slI_i, toBl_b, vw_i, vw_b, vw_t, vw_tI, vw_tT, vw_l, vw_s, vw_n, vw_ty, src_t, src_tI, src_tT, src_l, bin_add, bin_sub, neg_i, not_b, R.bind_assoc, e_isx, e_isv, e_lm, e_rngT1, e_rngT2, e_dget, e_din, e_dict, e_dictZ, e_callC, i_enm, s_app, seeL_l, lmK_l, enmK_t, e_lstC, e_addC, e_lst]
      refine Wp.bind (h2.mono fun f S2 hf => ?_)
      obtain ⟨rfl, t3, t4, rfl⟩ := hf
      simp only [e_var, e_cst, e_ty, e_gfn, e_bin, e_cmp, e_chn, e_neg, e_nt, e_one, e_and, e_or, e_ite, e_tup, e_lst, e_idx, e_slc, o_none, o_some, e_call, e_blt, e_isi, a_nil, a_cons, i_of, i_rng, c_none, c_some, s_set, s_setLc, s_asg, s_par, s_stI, s_ex, s_ret, s_if, s_rai, s_pass, b_nil, b_cons, M.opt_some, R.bind_ok, R.bind_exc, getE_0, getE_s, List.map_cons, List.map_nil, List.cons_append, List.nil_append, List.length_cons, List.length_nil, List.replicate_succ, List.replicate_zero, Nat.reduceSub, Nat.reduceAdd, List.set_cons_zero, List.set_cons_succ, Option.map_some, BT.nm, wipeE, seqK_n, seqK_r, andK_t, andK_f, orK_f, orK_t, iteK_t, iteK_f, asgK_nm, asgK_t2, asgK_t3, endF_n, endF_r, slI_i, toBl_b, vw_i, vw_b, vw_t, vw_tI, vw_tT, vw_l, vw_s, vw_n, vw_ty, src_t, src_tI, src_tT, src_l, bin_add, bin_sub, neg_i, not_b, R.bind_assoc, e_isx, e_isv, e_lm, e_rngT1, e_rngT2, e_dget, e_din, e_dict, e_dictZ, e_callC, i_enm, s_app, seeL_l, lmK_l, enmK_t, e_lstC, e_addC]
      exact ⟨rfl, _, _, _, _, rfl⟩
    · obtain ⟨rfl, t1, t2, t3, t4, rfl⟩ := hI
      rw [List.length_map, List.length_range]
      exact ⟨rfl, t1, t2, t3, t4, rfl⟩
  obtain ⟨f, S', e, rfl, t1, t2, t3, t4, rfl⟩ := h1.get
  simp only [b__law_all, e_var, e_cst, e_ty, e_gfn, e_bin, e_cmp, e_chn, e_neg, e_nt, e_one, e_and, e_or, e_ite, e_tup, e_lst, e_idx, e_slc, o_none, o_some, e_call, e_blt, e_isi, a_nil, a_cons, i_of, i_rng, c_none, c_some, s_set, s_setLc, s_asg, s_par, s_stI, s_ex, s_ret, s_if, s_rai, s_pass, b_nil, b_cons, M.opt_some, R.bind_ok, R.bind_exc, getE_0, getE_s, List.map_cons, List.map_nil, List.cons_append, List.nil_append, List.length_cons, List.length_nil, List.replicate_succ, List.replicate_zero, Nat.reduceSub, Nat.reduceAdd, List.set_cons_zero, List.set_cons_succ, Option.map_some, BT.nm, wipeE, seqK_n, seqK_r, andK_t, andK_f, orK_f, orK_t, iteK_t, iteK_f, asgK_nm, asgK_t2, asgK_t3, endF_n, endF_r, slI_i, toBl_b, vw_i, vw_b, vw_t, vw_tI, vw_tT, vw_l, vw_s, vw_n, vw_ty, src_t, src_tI, src_tT, src_l, bin_add, bin_sub, neg_i, not_b, R.bind_assoc, e_isx, e_isv, e_lm, e_rngT1, e_rngT2, e_dget, e_din, e_dict, e_dictZ, e_callC, i_enm, s_app, seeL_l, lmK_l, enmK_t, e_lstC, e_addC, e_lst]
  rw [e]
  simp only [e_var, e_cst, e_ty, e_gfn, e_bin, e_cmp, e_chn, e_neg, e_nt, e_one, e_and, e_or, e_ite, e_tup, e_lst, e_idx, e_slc, o_none, o_some, e_call, e_blt, e_isi, a_nil, a_cons, i_of, i_rng, c_none, c_some, s_set, s_setLc, s_asg, s_par, s_stI, s_ex, s_ret, s_if, s_rai, s_pass, b_nil, b_cons, M.opt_some, R.bind_ok, R.bind_exc, getE_0, getE_s, List.map_cons, List.map_nil, List.cons_append, List.nil_append, List.length_cons, List.length_nil, List.replicate_succ, List.replicate_zero, Nat.reduceSub, Nat.reduceAdd, List.set_cons_zero, List.set_cons_succ, Option.map_some, BT.nm, wipeE, seqK_n, seqK_r, andK_t, andK_f, orK_f, orK_t, iteK_t, iteK_f, asgK_nm, asgK_t2, asgK_t3, endF_n, endF_r, slI_i, toBl_b, vw_i, vw_b, vw_t, vw_tI, vw_tT, vw_l, vw_s, vw_n, vw_ty, src_t, src_tI, src_tT, src_l, bin_add, bin_sub, neg_i, not_b, R.bind_assoc, e_isx, e_isv, e_lm, e_rngT1, e_rngT2, e_dget, e_din, e_dict, e_dictZ, e_callC, i_enm, s_app, seeL_l, lmK_l, enmK_t, e_lstC, e_addC]
/-! ### the least within a lot, as the law counts it -/
theorem r_law_least (h : fs "_law_least" = some ⟨2, 9, b__law_least⟩) (ha : fs "_law_all" = some ⟨2, 7, b__law_all⟩) (F : FamOk n ss) (hL : lotOk n L) : Ok (runF fs (k + 2) "_law_least" [fam n ss, tI L] S) (.int (lwv L ss)) S := by
  have hinc := hL.2.2
  have nd := inc_nodup hinc
  have hlen := lot_len hL F.hi
  -- the scan of all rows
  have key : ∀ t3 t4 : Option D, Wp (exS (runF fs (k + 1)) (.for_ (.of (.call "_law_all" (.cons (.blt .len (.cons (.var 1) .nil)) (.cons (.tup (.cons (.neg (.cst (.int 1))) (.cons (.cst (.int 1)) .nil))) .nil)))) (.nm 6) b__law_least_1) [some (fam n ss), some (tI L), some (.lst (ss.map fun s => D.lst ((s.filter fun k => decide (k ∈ L)).map D.int))), t3, t4, some .non, none, none, none] S)
      (fun fl S' => ∃ ρ', fl = .nx ρ' ∧ Gr S S' ∧ ∃ t3 t4 t6 t7 t8 : Option D, ρ' = [some (fam n ss), some (tI L), some (.lst (ss.map fun s => D.lst ((s.filter fun k => decide (k ∈ L)).map D.int))), t3, t4, some (if (rows L.length).length = 0 then .non else .int (minL (((rows L.length).take (rows L.length).length).map fun c => maxL (ss.map fun s => iabs (ssum c (cut L s)))))), t6, t7, t8]) := by
    intro t3 t4
    refine wpFn (S1 := S) (rows L.length) tI ?_ (fun i ρ' S' => Gr S S' ∧ ∃ t3 t4 t6 t7 t8 : Option D, ρ' = [some (fam n ss), some (tI L), some (.lst (ss.map fun s => D.lst ((s.filter fun k => decide (k ∈ L)).map D.int))), t3, t4, some (if i = 0 then .non else .int (minL (((rows L.length).take i).map fun c => maxL (ss.map fun s => iabs (ssum c (cut L s)))))), t6, t7, t8]) ⟨Gr.refl S, t3, t4, none, none, none, rfl⟩ (fun i c ρ' S' hx hI => ?_)
    · have e := r_law_all (k := k) (S := S) (n := (L.length : Int)) ha (by omega) (by omega)
      rw [Int.toNat_natCast] at e
      simp only [e_var, e_cst, e_ty, e_gfn, e_bin, e_cmp, e_chn, e_neg, e_nt, e_one, e_and, e_or, e_ite, e_tup, e_lst, e_idx, e_slc, o_none, o_some, e_call, e_blt, e_isi, a_nil, a_cons, i_of, i_rng, c_none, c_some, s_set, s_setLc, s_asg, s_par, s_stI, s_ex, s_ret, s_if, s_rai, s_pass, b_nil, b_cons, M.opt_some, R.bind_ok, R.bind_exc, getE_0, getE_s, List.map_cons, List.map_nil, List.cons_append, List.nil_append, List.length_cons, List.length_nil, List.replicate_succ, List.replicate_zero, Nat.reduceSub, Nat.reduceAdd, List.set_cons_zero, List.set_cons_succ, Option.map_some, BT.nm, wipeE, seqK_n, seqK_r, andK_t, andK_f, orK_f, orK_t, iteK_t, iteK_f, asgK_nm, asgK_t2, asgK_t3, endF_n, endF_r, slI_i, toBl_b, vw_i, vw_b, vw_t, vw_tI, vw_tT, vw_l, vw_s, vw_n, vw_ty, src_t, src_tI, src_tT, src_l, bin_add, bin_sub, neg_i, not_b, R.bind_assoc, e_isx, e_isv, e_lm, e_rngT1, e_rngT2, e_dget, e_din, e_dict, e_dictZ, e_callC, i_enm, s_app, seeL_l, lmK_l, enmK_t, e_lstC, e_addC, len_tI, show (D.tup [.int (-1), .int 1]) = tI [-1, 1] from rfl, e]
    · obtain ⟨hG, t3, t4, t6, t7, t8, rfl⟩ := hI
      refine ⟨_, rfl, ?_⟩
      have hcl : c.length = L.length := ((rows_ok _ _).mp (List.mem_of_getElem? hx)).1
      have et : (rows L.length).take (i + 1) = (rows L.length).take i ++ [c] := by rw [List.take_add_one, hx]; rfl
      have hz : L.length = (c.map D.int).length := by rw [List.length_map, hcl]
      simp only [b__law_least_1, e_var, e_cst, e_ty, e_gfn, e_bin, e_cmp, e_chn, e_neg, e_nt, e_one, e_and, e_or, e_ite, e_tup, e_lst, e_idx, e_slc, o_none, o_some, e_call, e_blt, e_isi, a_nil, a_cons, i_of, i_rng, c_none, c_some, s_set, s_setLc, s_asg, s_par, s_stI, s_ex, s_ret, s_if, s_rai, s_pass, b_nil, b_cons, M.opt_some, R.bind_ok, R.bind_exc, getE_0, getE_s, List.map_cons, List.map_nil, List.cons_append, List.nil_append, List.length_cons, List.length_nil, List.replicate_succ, List.replicate_zero, Nat.reduceSub, Nat.reduceAdd, List.set_cons_zero, List.set_cons_succ, Option.map_some, BT.nm, wipeE, seqK_n, seqK_r, andK_t, andK_f, orK_f, orK_t, iteK_t, iteK_f, asgK_nm, asgK_t2, asgK_t3, endF_n, endF_r, slI_i, toBl_b, vw_i, vw_b, vw_t, vw_tI, vw_tT, vw_l, vw_s, vw_n, vw_ty, src_t, src_tI, src_tT, src_l, bin_add, bin_sub, neg_i, not_b, R.bind_assoc, e_isx, e_isv, e_lm, e_rngT1, e_rngT2, e_dget, e_din, e_dict, e_dictZ, e_callC, i_enm, s_app, seeL_l, lmK_l, enmK_t, e_lstC, e_addC]
      rw [show tI c = .tup (c.map D.int) from rfl, dictZ_i hz, mergeD_new _ _ (by rw [List.nil_append, zip_keys hz]; exact nd)]
      simp only [e_var, e_cst, e_ty, e_gfn, e_bin, e_cmp, e_chn, e_neg, e_nt, e_one, e_and, e_or, e_ite, e_tup, e_lst, e_idx, e_slc, o_none, o_some, e_call, e_blt, e_isi, a_nil, a_cons, i_of, i_rng, c_none, c_some, s_set, s_setLc, s_asg, s_par, s_stI, s_ex, s_ret, s_if, s_rai, s_pass, b_nil, b_cons, M.opt_some, R.bind_ok, R.bind_exc, getE_0, getE_s, List.map_cons, List.map_nil, List.cons_append, List.nil_append, List.length_cons, List.length_nil, List.replicate_succ, List.replicate_zero, Nat.reduceSub, Nat.reduceAdd, List.set_cons_zero, List.set_cons_succ, Option.map_some, BT.nm, wipeE, seqK_n, seqK_r, andK_t, andK_f, orK_f, orK_t, iteK_t, iteK_f, asgK_nm, asgK_t2, asgK_t3, endF_n, endF_r, slI_i, toBl_b, vw_i, vw_b, vw_t, vw_tI, vw_tT, vw_l, vw_s, vw_n, vw_ty, src_t, src_tI, src_tT, src_l, bin_add, bin_sub, neg_i, not_b, R.bind_assoc, e_isx, e_isv, e_lm, e_rngT1, e_rngT2, e_dget, e_din, e_dict, e_dictZ, e_callC, i_enm, s_app, seeL_l, lmK_l, enmK_t, e_lstC, e_addC]
      rw [lcE_map ss (fun s => D.lst ((s.filter fun k => decide (k ∈ L)).map D.int)) (fun s => D.int (iabs (ssum c (cut L s)))) (by simp only [e_var, e_cst, e_ty, e_gfn, e_bin, e_cmp, e_chn, e_neg, e_nt, e_one, e_and, e_or, e_ite, e_tup, e_lst, e_idx, e_slc, o_none, o_some, e_call, e_blt, e_isi, a_nil, a_cons, i_of, i_rng, c_none, c_some, s_set, s_setLc, s_asg, s_par, s_stI, s_ex, s_ret, s_if, s_rai, s_pass, b_nil, b_cons, M.opt_some, R.bind_ok, R.bind_exc, getE_0, getE_s, List.map_cons, List.map_nil, List.cons_append, List.nil_append, List.length_cons, List.length_nil, List.replicate_succ, List.replicate_zero, Nat.reduceSub, Nat.reduceAdd, List.set_cons_zero, List.set_cons_succ, Option.map_some, BT.nm, wipeE, seqK_n, seqK_r, andK_t, andK_f, orK_f, orK_t, iteK_t, iteK_f, asgK_nm, asgK_t2, asgK_t3, endF_n, endF_r, slI_i, toBl_b, vw_i, vw_b, vw_t, vw_tI, vw_tT, vw_l, vw_s, vw_n, vw_ty, src_t, src_tI, src_tT, src_l, bin_add, bin_sub, neg_i, not_b, R.bind_assoc, e_isx, e_isv, e_lm, e_rngT1, e_rngT2, e_dget, e_din, e_dict, e_dictZ, e_callC, i_enm, s_app, seeL_l, lmK_l, enmK_t, e_lstC, e_addC]) (fun s hs => ⟨_, rfl, by
        simp only [e_var, e_cst, e_ty, e_gfn, e_bin, e_cmp, e_chn, e_neg, e_nt, e_one, e_and, e_or, e_ite, e_tup, e_lst, e_idx, e_slc, o_none, o_some, e_call, e_blt, e_isi, a_nil, a_cons, i_of, i_rng, c_none, c_some, s_set, s_setLc, s_asg, s_par, s_stI, s_ex, s_ret, s_if, s_rai, s_pass, b_nil, b_cons, M.opt_some, R.bind_ok, R.bind_exc, getE_0, getE_s, List.map_cons, List.map_nil, List.cons_append, List.nil_append, List.length_cons, List.length_nil, List.replicate_succ, List.replicate_zero, Nat.reduceSub, Nat.reduceAdd, List.set_cons_zero, List.set_cons_succ, Option.map_some, BT.nm, wipeE, seqK_n, seqK_r, andK_t, andK_f, orK_f, orK_t, iteK_t, iteK_f, asgK_nm, asgK_t2, asgK_t3, endF_n, endF_r, slI_i, toBl_b, vw_i, vw_b, vw_t, vw_tI, vw_tT, vw_l, vw_s, vw_n, vw_ty, src_t, src_tI, src_tT, src_l, bin_add, bin_sub, neg_i, not_b, R.bind_assoc, e_isx, e_isv, e_lm, e_rngT1, e_rngT2, e_dget, e_din, e_dict, e_dictZ, e_callC, i_enm, s_app, seeL_l, lmK_l, enmK_t, e_lstC, e_addC]
        rw [lcE_map (s.filter fun k => decide (k ∈ L)) D.int (fun k => D.int (c.getD (ixo L k) 0)) (by simp only [e_var, e_cst, e_ty, e_gfn, e_bin, e_cmp, e_chn, e_neg, e_nt, e_one, e_and, e_or, e_ite, e_tup, e_lst, e_idx, e_slc, o_none, o_some, e_call, e_blt, e_isi, a_nil, a_cons, i_of, i_rng, c_none, c_some, s_set, s_setLc, s_asg, s_par, s_stI, s_ex, s_ret, s_if, s_rai, s_pass, b_nil, b_cons, M.opt_some, R.bind_ok, R.bind_exc, getE_0, getE_s, List.map_cons, List.map_nil, List.cons_append, List.nil_append, List.length_cons, List.length_nil, List.replicate_succ, List.replicate_zero, Nat.reduceSub, Nat.reduceAdd, List.set_cons_zero, List.set_cons_succ, Option.map_some, BT.nm, wipeE, seqK_n, seqK_r, andK_t, andK_f, orK_f, orK_t, iteK_t, iteK_f, asgK_nm, asgK_t2, asgK_t3, endF_n, endF_r, slI_i, toBl_b, vw_i, vw_b, vw_t, vw_tI, vw_tT, vw_l, vw_s, vw_n, vw_ty, src_t, src_tI, src_tT, src_l, bin_add, bin_sub, neg_i, not_b, R.bind_assoc, e_isx, e_isv, e_lm, e_rngT1, e_rngT2, e_dget, e_din, e_dict, e_dictZ, e_callC, i_enm, s_app, seeL_l, lmK_l, enmK_t, e_lstC, e_addC]) (fun x hx => ⟨_, rfl, by
          have hxL : x ∈ L := by simpa using (List.mem_filter.mp hx).2
          have hxl := ixo_lt hxL
          simp only [e_var, e_cst, e_ty, e_gfn, e_bin, e_cmp, e_chn, e_neg, e_nt, e_one, e_and, e_or, e_ite, e_tup, e_lst, e_idx, e_slc, o_none, o_some, e_call, e_blt, e_isi, a_nil, a_cons, i_of, i_rng, c_none, c_some, s_set, s_setLc, s_asg, s_par, s_stI, s_ex, s_ret, s_if, s_rai, s_pass, b_nil, b_cons, M.opt_some, R.bind_ok, R.bind_exc, getE_0, getE_s, List.map_cons, List.map_nil, List.cons_append, List.nil_append, List.length_cons, List.length_nil, List.replicate_succ, List.replicate_zero, Nat.reduceSub, Nat.reduceAdd, List.set_cons_zero, List.set_cons_succ, Option.map_some, BT.nm, wipeE, seqK_n, seqK_r, andK_t, andK_f, orK_f, orK_t, iteK_t, iteK_f, asgK_nm, asgK_t2, asgK_t3, endF_n, endF_r, slI_i, toBl_b, vw_i, vw_b, vw_t, vw_tI, vw_tT, vw_l, vw_s, vw_n, vw_ty, src_t, src_tI, src_tT, src_l, bin_add, bin_sub, neg_i, not_b, R.bind_assoc, e_isx, e_isv, e_lm, e_rngT1, e_rngT2, e_dget, e_din, e_dict, e_dictZ, e_callC, i_enm, s_app, seeL_l, lmK_l, enmK_t, e_lstC, e_addC]
          rw [dget_c get_end, lookup_zip (ds := []) hz, if_pos hxL, List.getElem?_map, List.getElem?_eq_getElem (by omega)]
          simp [List.getD, List.getElem?_eq_getElem (show ixo L x < c.length by omega)]⟩)]
        simp only [e_var, e_cst, e_ty, e_gfn, e_bin, e_cmp, e_chn, e_neg, e_nt, e_one, e_and, e_or, e_ite, e_tup, e_lst, e_idx, e_slc, o_none, o_some, e_call, e_blt, e_isi, a_nil, a_cons, i_of, i_rng, c_none, c_some, s_set, s_setLc, s_asg, s_par, s_stI, s_ex, s_ret, s_if, s_rai, s_pass, b_nil, b_cons, M.opt_some, R.bind_ok, R.bind_exc, getE_0, getE_s, List.map_cons, List.map_nil, List.cons_append, List.nil_append, List.length_cons, List.length_nil, List.replicate_succ, List.replicate_zero, Nat.reduceSub, Nat.reduceAdd, List.set_cons_zero, List.set_cons_succ, Option.map_some, BT.nm, wipeE, seqK_n, seqK_r, andK_t, andK_f, orK_f, orK_t, iteK_t, iteK_f, asgK_nm, asgK_t2, asgK_t3, endF_n, endF_r, slI_i, toBl_b, vw_i, vw_b, vw_t, vw_tI, vw_tT, vw_l, vw_s, vw_n, vw_ty, src_t, src_tI, src_tT, src_l, bin_add, bin_sub, neg_i, not_b, R.bind_assoc, e_isx, e_isv, e_lm, e_rngT1, e_rngT2, e_dget, e_din, e_dict, e_dictZ, e_callC, i_enm, s_app, seeL_l, lmK_l, enmK_t, e_lstC, e_addC, sum_m, abs_i]
        have es : ((s.filter fun k => decide (k ∈ L)).map fun k => c.getD (ixo L k) 0).sum = ssum c (cut L s) := by
          unfold ssum cut
          rw [List.map_map]
          rfl
        rw [es]
        rfl⟩)]
      simp only [e_var, e_cst, e_ty, e_gfn, e_bin, e_cmp, e_chn, e_neg, e_nt, e_one, e_and, e_or, e_ite, e_tup, e_lst, e_idx, e_slc, o_none, o_some, e_call, e_blt, e_isi, a_nil, a_cons, i_of, i_rng, c_none, c_some, s_set, s_setLc, s_asg, s_par, s_stI, s_ex, s_ret, s_if, s_rai, s_pass, b_nil, b_cons, M.opt_some, R.bind_ok, R.bind_exc, getE_0, getE_s, List.map_cons, List.map_nil, List.cons_append, List.nil_append, List.length_cons, List.length_nil, List.replicate_succ, List.replicate_zero, Nat.reduceSub, Nat.reduceAdd, List.set_cons_zero, List.set_cons_succ, Option.map_some, BT.nm, wipeE, seqK_n, seqK_r, andK_t, andK_f, orK_f, orK_t, iteK_t, iteK_f, asgK_nm, asgK_t2, asgK_t3, endF_n, endF_r, slI_i, toBl_b, vw_i, vw_b, vw_t, vw_tI, vw_tT, vw_l, vw_s, vw_n, vw_ty, src_t, src_tI, src_tT, src_l, bin_add, bin_sub, neg_i, not_b, R.bind_assoc, e_isx, e_isv, e_lm, e_rngT1, e_rngT2, e_dget, e_din, e_dict, e_dictZ, e_callC, i_enm, s_app, seeL_l, lmK_l, enmK_t, e_lstC, e_addC]
      rw [max_m _ _ (by simpa using F.ne)]
      simp only [e_var, e_cst, e_ty, e_gfn, e_bin, e_cmp, e_chn, e_neg, e_nt, e_one, e_and, e_or, e_ite, e_tup, e_lst, e_idx, e_slc, o_none, o_some, e_call, e_blt, e_isi, a_nil, a_cons, i_of, i_rng, c_none, c_some, s_set, s_setLc, s_asg, s_par, s_stI, s_ex, s_ret, s_if, s_rai, s_pass, b_nil, b_cons, M.opt_some, R.bind_ok, R.bind_exc, getE_0, getE_s, List.map_cons, List.map_nil, List.cons_append, List.nil_append, List.length_cons, List.length_nil, List.replicate_succ, List.replicate_zero, Nat.reduceSub, Nat.reduceAdd, List.set_cons_zero, List.set_cons_succ, Option.map_some, BT.nm, wipeE, seqK_n, seqK_r, andK_t, andK_f, orK_f, orK_t, iteK_t, iteK_f, asgK_nm, asgK_t2, asgK_t3, endF_n, endF_r, slI_i, toBl_b, vw_i, vw_b, vw_t, vw_tI, vw_tT, vw_l, vw_s, vw_n, vw_ty, src_t, src_tI, src_tT, src_l, bin_add, bin_sub, neg_i, not_b, R.bind_assoc, e_isx, e_isv, e_lm, e_rngT1, e_rngT2, e_dget, e_din, e_dict, e_dictZ, e_callC, i_enm, s_app, seeL_l, lmK_l, enmK_t, e_lstC, e_addC]
      rw [et, List.map_append, List.map_cons, List.map_nil]
      by_cases hi : i = 0
      · subst hi
        simp only [if_true, e_var, e_cst, e_ty, e_gfn, e_bin, e_cmp, e_chn, e_neg, e_nt, e_one, e_and, e_or, e_ite, e_tup, e_lst, e_idx, e_slc, o_none, o_some, e_call, e_blt, e_isi, a_nil, a_cons, i_of, i_rng, c_none, c_some, s_set, s_setLc, s_asg, s_par, s_stI, s_ex, s_ret, s_if, s_rai, s_pass, b_nil, b_cons, M.opt_some, R.bind_ok, R.bind_exc, getE_0, getE_s, List.map_cons, List.map_nil, List.cons_append, List.nil_append, List.length_cons, List.length_nil, List.replicate_succ, List.replicate_zero, Nat.reduceSub, Nat.reduceAdd, List.set_cons_zero, List.set_cons_succ, Option.map_some, BT.nm, wipeE, seqK_n, seqK_r, andK_t, andK_f, orK_f, orK_t, iteK_t, iteK_f, asgK_nm, asgK_t2, asgK_t3, endF_n, endF_r, slI_i, toBl_b, vw_i, vw_b, vw_t, vw_tI, vw_tT, vw_l, vw_s, vw_n, vw_ty, src_t, src_tI, src_tT, src_l, bin_add, bin_sub, neg_i, not_b, R.bind_assoc, e_isx, e_isv, e_lm, e_rngT1, e_rngT2, e_dget, e_din, e_dict, e_dictZ, e_callC, i_enm, s_app, seeL_l, lmK_l, enmK_t, e_lstC, e_addC, show cmpB .Is .non .non = some (.bl true) from rfl]
        exact ⟨_, rfl, hG.trans (Gr.app _ _), _, _, _, _, _, rfl⟩
      · have hne : ((rows L.length).take i).map (fun c => maxL (ss.map fun s => iabs (ssum c (cut L s)))) ≠ [] := by
          have : (rows L.length).length ≠ 0 := fun z => rows_ne _ (List.length_eq_zero_iff.mp z)
          intro z
          have := congrArg List.length z
          rw [List.length_map, List.length_take, List.length_nil] at this
          omega
        generalize hvs : ((rows L.length).take i).map (fun c => maxL (ss.map fun s => iabs (ssum c (cut L s)))) = vs at hne ⊢
        generalize maxL (ss.map fun s => iabs (ssum c (cut L s))) = v
        have hmin : minL (vs ++ [v]) = if v < minL vs then v else minL vs := by
          obtain ⟨m1, m2⟩ := minL_spec hne
          obtain ⟨n1, n2⟩ := minL_spec (ns := vs ++ [v]) (by simp)
          have a1 := n2 v (by simp)
          have a2 := n2 _ (List.mem_append_left _ m1)
          rcases List.mem_append.mp n1 with z | z
          · have := m2 _ z
            split <;> omega
          · simp at z
            split <;> omega
        have ev : ∀ (S : Store) (x : D), vw S (.int (minL vs)) = .int (minL vs) := fun _ _ => rfl
        simp only [if_neg hi, if_neg (show ¬ i + 1 = 0 by omega), e_var, e_cst, e_ty, e_gfn, e_bin, e_cmp, e_chn, e_neg, e_nt, e_one, e_and, e_or, e_ite, e_tup, e_lst, e_idx, e_slc, o_none, o_some, e_call, e_blt, e_isi, a_nil, a_cons, i_of, i_rng, c_none, c_some, s_set, s_setLc, s_asg, s_par, s_stI, s_ex, s_ret, s_if, s_rai, s_pass, b_nil, b_cons, M.opt_some, R.bind_ok, R.bind_exc, getE_0, getE_s, List.map_cons, List.map_nil, List.cons_append, List.nil_append, List.length_cons, List.length_nil, List.replicate_succ, List.replicate_zero, Nat.reduceSub, Nat.reduceAdd, List.set_cons_zero, List.set_cons_succ, Option.map_some, BT.nm, wipeE, seqK_n, seqK_r, andK_t, andK_f, orK_f, orK_t, iteK_t, iteK_f, asgK_nm, asgK_t2, asgK_t3, endF_n, endF_r, slI_i, toBl_b, vw_i, vw_b, vw_t, vw_tI, vw_tT, vw_l, vw_s, vw_n, vw_ty, src_t, src_tI, src_tT, src_l, bin_add, bin_sub, neg_i, not_b, R.bind_assoc, e_isx, e_isv, e_lm, e_rngT1, e_rngT2, e_dget, e_din, e_dict, e_dictZ, e_callC, i_enm, s_app, seeL_l, lmK_l, enmK_t, e_lstC, e_addC, show cmpB .Is (.int (minL vs)) .non = some (.bl false) from rfl, cmp_lt]
        rw [hmin]
        by_cases hlt : v < minL vs
        · simp only [decide_eq_true hlt, e_var, e_cst, e_ty, e_gfn, e_bin, e_cmp, e_chn, e_neg, e_nt, e_one, e_and, e_or, e_ite, e_tup, e_lst, e_idx, e_slc, o_none, o_some, e_call, e_blt, e_isi, a_nil, a_cons, i_of, i_rng, c_none, c_some, s_set, s_setLc, s_asg, s_par, s_stI, s_ex, s_ret, s_if, s_rai, s_pass, b_nil, b_cons, M.opt_some, R.bind_ok, R.bind_exc, getE_0, getE_s, List.map_cons, List.map_nil, List.cons_append, List.nil_append, List.length_cons, List.length_nil, List.replicate_succ, List.replicate_zero, Nat.reduceSub, Nat.reduceAdd, List.set_cons_zero, List.set_cons_succ, Option.map_some, BT.nm, wipeE, seqK_n, seqK_r, andK_t, andK_f, orK_f, orK_t, iteK_t, iteK_f, asgK_nm, asgK_t2, asgK_t3, endF_n, endF_r, slI_i, toBl_b, vw_i, vw_b, vw_t, vw_tI, vw_tT, vw_l, vw_s, vw_n, vw_ty, src_t, src_tI, src_tT, src_l, bin_add, bin_sub, neg_i, not_b, R.bind_assoc, e_isx, e_isv, e_lm, e_rngT1, e_rngT2, e_dget, e_din, e_dict, e_dictZ, e_callC, i_enm, s_app, seeL_l, lmK_l, enmK_t, e_lstC, e_addC, if_pos hlt]
          exact ⟨_, rfl, hG.trans (Gr.app _ _), _, _, _, _, _, rfl⟩
        · simp only [decide_eq_false hlt, e_var, e_cst, e_ty, e_gfn, e_bin, e_cmp, e_chn, e_neg, e_nt, e_one, e_and, e_or, e_ite, e_tup, e_lst, e_idx, e_slc, o_none, o_some, e_call, e_blt, e_isi, a_nil, a_cons, i_of, i_rng, c_none, c_some, s_set, s_setLc, s_asg, s_par, s_stI, s_ex, s_ret, s_if, s_rai, s_pass, b_nil, b_cons, M.opt_some, R.bind_ok, R.bind_exc, getE_0, getE_s, List.map_cons, List.map_nil, List.cons_append, List.nil_append, List.length_cons, List.length_nil, List.replicate_succ, List.replicate_zero, Nat.reduceSub, Nat.reduceAdd, List.set_cons_zero, List.set_cons_succ, Option.map_some, BT.nm, wipeE, seqK_n, seqK_r, andK_t, andK_f, orK_f, orK_t, iteK_t, iteK_f, asgK_nm, asgK_t2, asgK_t3, endF_n, endF_r, slI_i, toBl_b, vw_i, vw_b, vw_t, vw_tI, vw_tT, vw_l, vw_s, vw_n, vw_ty, src_t, src_tI, src_tT, src_l, bin_add, bin_sub, neg_i, not_b, R.bind_assoc, e_isx, e_isv, e_lm, e_rngT1, e_rngT2, e_dget, e_din, e_dict, e_dictZ, e_callC, i_enm, s_app, seeL_l, lmK_l, enmK_t, e_lstC, e_addC, if_neg hlt]
          exact ⟨_, rfl, hG.trans (Gr.app _ _), _, _, _, _, _, rfl⟩
  rw [rf_eq h]
  simp only [b__law_least, e_var, e_cst, e_ty, e_gfn, e_bin, e_cmp, e_chn, e_neg, e_nt, e_one, e_and, e_or, e_ite, e_tup, e_lst, e_idx, e_slc, o_none, o_some, e_call, e_blt, e_isi, a_nil, a_cons, i_of, i_rng, c_none, c_some, s_set, s_setLc, s_asg, s_par, s_stI, s_ex, s_ret, s_if, s_rai, s_pass, b_nil, b_cons, M.opt_some, R.bind_ok, R.bind_exc, getE_0, getE_s, List.map_cons, List.map_nil, List.cons_append, List.nil_append, List.length_cons, List.length_nil, List.replicate_succ, List.replicate_zero, Nat.reduceSub, Nat.reduceAdd, List.set_cons_zero, List.set_cons_succ, Option.map_some, BT.nm, wipeE, seqK_n, seqK_r, andK_t, andK_f, orK_f, orK_t, iteK_t, iteK_f, asgK_nm, asgK_t2, asgK_t3, endF_n, endF_r, slI_i, toBl_b, vw_i, vw_b, vw_t, vw_tI, vw_tT, vw_l, vw_s, vw_n, vw_ty, src_t, src_tI, src_tT, src_l, bin_add, bin_sub, neg_i, not_b, R.bind_assoc, e_isx, e_isv, e_lm, e_rngT1, e_rngT2, e_dget, e_din, e_dict, e_dictZ, e_callC, i_enm, s_app, seeL_l, lmK_l, enmK_t, e_lstC, e_addC]
  rw [lcE_map ss tI (fun s => D.lst ((s.filter fun k => decide (k ∈ L)).map D.int)) (by simp only [e_var, e_cst, e_ty, e_gfn, e_bin, e_cmp, e_chn, e_neg, e_nt, e_one, e_and, e_or, e_ite, e_tup, e_lst, e_idx, e_slc, o_none, o_some, e_call, e_blt, e_isi, a_nil, a_cons, i_of, i_rng, c_none, c_some, s_set, s_setLc, s_asg, s_par, s_stI, s_ex, s_ret, s_if, s_rai, s_pass, b_nil, b_cons, M.opt_some, R.bind_ok, R.bind_exc, getE_0, getE_s, List.map_cons, List.map_nil, List.cons_append, List.nil_append, List.length_cons, List.length_nil, List.replicate_succ, List.replicate_zero, Nat.reduceSub, Nat.reduceAdd, List.set_cons_zero, List.set_cons_succ, Option.map_some, BT.nm, wipeE, seqK_n, seqK_r, andK_t, andK_f, orK_f, orK_t, iteK_t, iteK_f, asgK_nm, asgK_t2, asgK_t3, endF_n, endF_r, slI_i, toBl_b, vw_i, vw_b, vw_t, vw_tI, vw_tT, vw_l, vw_s, vw_n, vw_ty, src_t, src_tI, src_tT, src_l, bin_add, bin_sub, neg_i, not_b, R.bind_assoc, e_isx, e_isv, e_lm, e_rngT1, e_rngT2, e_dget, e_din, e_dict, e_dictZ, e_callC, i_enm, s_app, seeL_l, lmK_l, enmK_t, e_lstC, e_addC, fam, idx_t, atI_1]) (fun s hs => ⟨_, rfl, by
    rw [lcE_eq s D.int (fun k => decide (k ∈ L)) D.int (by simp only [e_var, e_cst, e_ty, e_gfn, e_bin, e_cmp, e_chn, e_neg, e_nt, e_one, e_and, e_or, e_ite, e_tup, e_lst, e_idx, e_slc, o_none, o_some, e_call, e_blt, e_isi, a_nil, a_cons, i_of, i_rng, c_none, c_some, s_set, s_setLc, s_asg, s_par, s_stI, s_ex, s_ret, s_if, s_rai, s_pass, b_nil, b_cons, M.opt_some, R.bind_ok, R.bind_exc, getE_0, getE_s, List.map_cons, List.map_nil, List.cons_append, List.nil_append, List.length_cons, List.length_nil, List.replicate_succ, List.replicate_zero, Nat.reduceSub, Nat.reduceAdd, List.set_cons_zero, List.set_cons_succ, Option.map_some, BT.nm, wipeE, seqK_n, seqK_r, andK_t, andK_f, orK_f, orK_t, iteK_t, iteK_f, asgK_nm, asgK_t2, asgK_t3, endF_n, endF_r, slI_i, toBl_b, vw_i, vw_b, vw_t, vw_tI, vw_tT, vw_l, vw_s, vw_n, vw_ty, src_t, src_tI, src_tT, src_l, bin_add, bin_sub, neg_i, not_b, R.bind_assoc, e_isx, e_isv, e_lm, e_rngT1, e_rngT2, e_dget, e_din, e_dict, e_dictZ, e_callC, i_enm, s_app, seeL_l, lmK_l, enmK_t, e_lstC, e_addC]) (fun x hx => ⟨_, rfl, by simp only [e_var, e_cst, e_ty, e_gfn, e_bin, e_cmp, e_chn, e_neg, e_nt, e_one, e_and, e_or, e_ite, e_tup, e_lst, e_idx, e_slc, o_none, o_some, e_call, e_blt, e_isi, a_nil, a_cons, i_of, i_rng, c_none, c_some, s_set, s_setLc, s_asg, s_par, s_stI, s_ex, s_ret, s_if, s_rai, s_pass, b_nil, b_cons, M.opt_some, R.bind_ok, R.bind_exc, getE_0, getE_s, List.map_cons, List.map_nil, List.cons_append, List.nil_append, List.length_cons, List.length_nil, List.replicate_succ, List.replicate_zero, Nat.reduceSub, Nat.reduceAdd, List.set_cons_zero, List.set_cons_succ, Option.map_some, BT.nm, wipeE, seqK_n, seqK_r, andK_t, andK_f, orK_f, orK_t, iteK_t, iteK_f, asgK_nm, asgK_t2, asgK_t3, endF_n, endF_r, slI_i, toBl_b, vw_i, vw_b, vw_t, vw_tI, vw_tT, vw_l, vw_s, vw_n, vw_ty, src_t, src_tI, src_tT, src_l, bin_add, bin_sub, neg_i, not_b, R.bind_assoc, e_isx, e_isv, e_lm, e_rngT1, e_rngT2, e_dget, e_din, e_dict, e_dictZ, e_callC, i_enm, s_app, seeL_l, lmK_l, enmK_t, e_lstC, e_addC, cin_tI], fun _ => by simp only [e_var, e_cst, e_ty, e_gfn, e_bin, e_cmp, e_chn, e_neg, e_nt, e_one, e_and, e_or, e_ite, e_tup, e_lst, e_idx, e_slc, o_none, o_some, e_call, e_blt, e_isi, a_nil, a_cons, i_of, i_rng, c_none, c_some, s_set, s_setLc, s_asg, s_par, s_stI, s_ex, s_ret, s_if, s_rai, s_pass, b_nil, b_cons, M.opt_some, R.bind_ok, R.bind_exc, getE_0, getE_s, List.map_cons, List.map_nil, List.cons_append, List.nil_append, List.length_cons, List.length_nil, List.replicate_succ, List.replicate_zero, Nat.reduceSub, Nat.reduceAdd, List.set_cons_zero, List.set_cons_succ, Option.map_some, BT.nm, wipeE, seqK_n, seqK_r, andK_t, andK_f, orK_f, orK_t, iteK_t, iteK_f, asgK_nm, asgK_t2, asgK_t3, endF_n, endF_r, slI_i, toBl_b, vw_i, vw_b, vw_t, vw_tI, vw_tT, vw_l, vw_s, vw_n, vw_ty, src_t, src_tI, src_tT, src_l, bin_add, bin_sub, neg_i, not_b, R.bind_assoc, e_isx, e_isv, e_lm, e_rngT1, e_rngT2, e_dget, e_din, e_dict, e_dictZ, e_callC, i_enm, s_app, seeL_l, lmK_l, enmK_t, e_lstC, e_addC]⟩)]⟩)]
  simp only [e_var, e_cst, e_ty, e_gfn, e_bin, e_cmp, e_chn, e_neg, e_nt, e_one, e_and, e_or, e_ite, e_tup, e_lst, e_idx, e_slc, o_none, o_some, e_call, e_blt, e_isi, a_nil, a_cons, i_of, i_rng, c_none, c_some, s_set, s_setLc, s_asg, s_par, s_stI, s_ex, s_ret, s_if, s_rai, s_pass, b_nil, b_cons, M.opt_some, R.bind_ok, R.bind_exc, getE_0, getE_s, List.map_cons, List.map_nil, List.cons_append, List.nil_append, List.length_cons, List.length_nil, List.replicate_succ, List.replicate_zero, Nat.reduceSub, Nat.reduceAdd, List.set_cons_zero, List.set_cons_succ, Option.map_some, BT.nm, wipeE, seqK_n, seqK_r, andK_t, andK_f, orK_f, orK_t, iteK_t, iteK_f, asgK_nm, asgK_t2, asgK_t3, endF_n, endF_r, slI_i, toBl_b, vw_i, vw_b, vw_t, vw_tI, vw_tT, vw_l, vw_s, vw_n, vw_ty, src_t, src_tI, src_tT, src_l, bin_add, bin_sub, neg_i, not_b, R.bind_assoc, e_isx, e_isv, e_lm, e_rngT1, e_rngT2, e_dget, e_din, e_dict, e_dictZ, e_callC, i_enm, s_app, seeL_l, lmK_l, enmK_t, e_lstC, e_addC]
  obtain ⟨fl, S', e, ρ', rfl, hG, t3, t4, t6, t7, t8, rfl⟩ := (key none none).get
  rw [e]
  rw [if_neg (fun z => rows_ne _ (List.length_eq_zero_iff.mp z)), List.take_length]
  simp only [e_var, e_cst, e_ty, e_gfn, e_bin, e_cmp, e_chn, e_neg, e_nt, e_one, e_and, e_or, e_ite, e_tup, e_lst, e_idx, e_slc, o_none, o_some, e_call, e_blt, e_isi, a_nil, a_cons, i_of, i_rng, c_none, c_some, s_set, s_setLc, s_asg, s_par, s_stI, s_ex, s_ret, s_if, s_rai, s_pass, b_nil, b_cons, M.opt_some, R.bind_ok, R.bind_exc, getE_0, getE_s, List.map_cons, List.map_nil, List.cons_append, List.nil_append, List.length_cons, List.length_nil, List.replicate_succ, List.replicate_zero, Nat.reduceSub, Nat.reduceAdd, List.set_cons_zero, List.set_cons_succ, Option.map_some, BT.nm, wipeE, seqK_n, seqK_r, andK_t, andK_f, orK_f, orK_t, iteK_t, iteK_f, asgK_nm, asgK_t2, asgK_t3, endF_n, endF_r, slI_i, toBl_b, vw_i, vw_b, vw_t, vw_tI, vw_tT, vw_l, vw_s, vw_n, vw_ty, src_t, src_tI, src_tT, src_l, bin_add, bin_sub, neg_i, not_b, R.bind_assoc, e_isx, e_isv, e_lm, e_rngT1, e_rngT2, e_dget, e_din, e_dict, e_dictZ, e_callC, i_enm, s_app, seeL_l, lmK_l, enmK_t, e_lstC, e_addC]
  exact ⟨S', rfl, hG⟩
end
end LC

end
section
set_option maxHeartbeats 4000000
/-! Q5: values compared, part by part; the town among stores that grow. -/
namespace LC
open PySem PySem.Spec PyProof.Rows L2
theorem sh_t (xs : List D) (n : Nat) : (D.tup xs).sh (n + 1) = D.shA xs n := rfl
theorem sh_l (xs : List D) (n : Nat) : (D.lst xs).sh (n + 1) = D.shA xs n := rfl
theorem shA_0 (n : Nat) : D.shA [] n = true := rfl
theorem shA_c (d : D) (ds : List D) (n : Nat) : D.shA (d :: ds) n = (d.sh n && D.shA ds n) := rfl
theorem sh_i (i : Int) (n : Nat) : (D.int i).sh n = true := by cases n <;> rfl
theorem sh_b (i : Bool) (n : Nat) : (D.bl i).sh n = true := by cases n <;> rfl
theorem sh_n (n : Nat) : D.non.sh n = true := by cases n <;> rfl
theorem sh_s (x : Str) (n : Nat) : (D.str x).sh n = PyData.strOk x := by cases n <;> rfl
theorem eqb_refl {d : D} {n : Nat} (h : d.sh n = true) : d.eqb d = true := PySem.SeqAt.eqv_refl _ (sh_can d n h).1
theorem eqb_t (a b : List D) : (D.tup a).eqb (.tup b) = D.eqbA a b := by
  unfold D.eqb D.eqbA
  show PyData.eqv (.tuple _) (.tuple _) = _
  rw [PyData.eqv]
theorem eqb_l (a b : List D) : (D.lst a).eqb (.lst b) = D.eqbA a b := by
  unfold D.eqb D.eqbA
  show PyData.eqv (.list _) (.list _) = _
  rw [PyData.eqv]
theorem eqbA_c (a b : D) (as bs : List D) : D.eqbA (a :: as) (b :: bs) = (a.eqb b && D.eqbA as bs) := by
  unfold D.eqb D.eqbA
  show PyData.eqvAll (_ :: _) (_ :: _) = _
  rw [PyData.eqvAll]
theorem eqbA_0 : D.eqbA [] [] = true := by
  unfold D.eqbA
  show PyData.eqvAll [] [] = _
  rw [PyData.eqvAll]
theorem eqbA_0c (b : D) (bs : List D) : D.eqbA [] (b :: bs) = false := by
  unfold D.eqbA
  show PyData.eqvAll [] (_ :: _) = _
  rw [PyData.eqvAll] <;> simp
theorem eqbA_c0 (b : D) (bs : List D) : D.eqbA (b :: bs) [] = false := by
  unfold D.eqbA
  show PyData.eqvAll (_ :: _) [] = _
  rw [PyData.eqvAll] <;> simp
theorem eqb_nt (a : List D) : D.non.eqb (.tup a) = false := by
  unfold D.eqb
  show PyData.eqv .none (.tuple _) = _
  simp only [PyData.eqv]
theorem eqb_tn (a : List D) : (D.tup a).eqb .non = false := by
  unfold D.eqb
  show PyData.eqv (.tuple _) .none = _
  simp only [PyData.eqv]
theorem eqb_nn : D.non.eqb .non = true := by
  unfold D.eqb
  show PyData.eqv .none .none = _
  simp only [PyData.eqv]
theorem eqb_s (a b : Str) : (D.str a).eqb (.str b) = decide (a = b) := PySem.W.Datum.eqv a b
theorem eqb_tI' (a b : List Int) : D.eqbA (a.map D.int) (b.map D.int) = decide (a = b) := by rw [← eqb_t]; exact eqb_tI a b
theorem cne_self {d : D} (h : d.sh 60 = true) : cmpB .NotEq d d = some (.bl false) := by rw [cmp_ne h h, eqb_refl h]; rfl
theorem ceq_self {d : D} (h : d.sh 60 = true) : cmpB .Eq d d = some (.bl true) := by rw [cmp_eq h h, eqb_refl h]
theorem sh_fam (n : Int) (ss : List (List Int)) (k : Nat) : (fam n ss).sh (k + 3) = true := by
  show D.shA [.int n, tT ss] (k + 2) = true
  rw [shA_c, shA_c, sh_i, sh_tT, shA_0]
  rfl
theorem raised_ne {i j : Nat} : cmpB .NotEq (raised i) (raised j) = some (.bl (!decide (i = j))) := by
  have h1 : PyData.strOk ("raised" : Str) = true := by decide +kernel
  have hs : ∀ i, (raised i).sh 60 = true := fun i => by
    show D.shA [.str "raised", .int (i : Nat)] 59 = true
    rw [shA_c, shA_c, sh_s, sh_i, shA_0, h1]
    rfl
  rw [cmp_ne (hs i) (hs j)]
  unfold raised
  rw [eqb_t, eqbA_c, eqbA_c, eqb_s, eqb_int, eqbA_0, decide_eq_true rfl]
  simp [Int.natCast_inj]
theorem fLM_int (vs : List Int) (v : Int) (h : v ∈ vs) : fLM .index (vs.map D.int) (.int v) = some (.int (ixo vs v : Nat)) := by
  have e : fLM .index (vs.map D.int) (.int v) = if ((D.int v).sh 60 && D.shA (vs.map D.int) 58) = true then (placeD (vs.map D.int) (.int v)).map (fun n => D.int (n : Nat)) else none := rfl
  rw [e, sh_i, sh_ints]
  have p : ∀ vs : List Int, v ∈ vs → placeD (vs.map D.int) (.int v) = some (ixo vs v) := by
    intro vs
    induction vs with
    | nil => intro h; cases h
    | cons x xs ih =>
      intro h
      show (if (D.int x).eqb (.int v) = true then some 0 else (placeD (xs.map D.int) (.int v)).map (· + 1)) = _
      rw [eqb_int]
      unfold ixo
      by_cases e : x = v
      · rw [if_pos (decide_eq_true e), if_pos e]
      · rw [if_neg (by simpa using e), if_neg e, ih ((List.mem_cons.mp h).resolve_left fun z => e z.symm)]
        rfl
  rw [p vs h]
  rfl
def Tz (ns : List Int) (b : Nat) (S : Store) : Prop := ∃ T, Tn ns T b S
theorem Tz.gr {ns : List Int} {b : Nat} {S S' : Store} (h : Tz ns b S) (g : Gr S S') : Tz ns b S' := by
  obtain ⟨T, h⟩ := h
  exact h.gr g
theorem Tz.mono {ns : List Int} {b b' : Nat} {S : Store} (h : Tz ns b S) (hb : b ≤ b') : Tz ns b' S := by
  obtain ⟨T, h⟩ := h
  exact ⟨T, h.mono hb⟩
section
variable {fs : Str → Option Fn} {k : Nat} {S T : Store} {ns : List Int} {b : Nat}
theorem z_draw (h : DrawOk fs) {lim : Int} (hl : 1 ≤ lim ∧ lim ≤ 1000) (hb : b ≤ 1000000) (ht : Tz ns b S) :
    Wp (runF fs (k + 1) "_law_draw" [lI ns, .cell 0, .int lim] S) (fun d S' => ∃ v : Int, d = .int v ∧ 0 ≤ v ∧ v < lim ∧ Tz ns (b + 1) S') := by
  obtain ⟨T, ht⟩ := ht
  refine (r_draw h hl hb ht).mono fun d S' hd => ?_
  obtain ⟨v, e, h0, h1, h2⟩ := hd
  exact ⟨v, e, h0, h1, T, h2⟩
theorem z_pick (h : DrawOk fs) (hp : fs "_law_pick" = some ⟨3, 3, b__law_pick⟩) {l : List D} (h1 : l ≠ []) (hl : l.length ≤ 1000) (hb : b ≤ 1000000) (ht : Tz ns b S) :
    Wp (runF fs (k + 2) "_law_pick" [lI ns, .cell 0, .lst l] S) (fun d S' => d ∈ l ∧ Tz ns (b + 1) S') := by
  obtain ⟨T, ht⟩ := ht
  refine (r_pick h hp h1 hl hb ht).mono fun d S' hd => ?_
  obtain ⟨i, e, h2⟩ := hd
  exact ⟨List.mem_of_getElem? e, T, h2⟩
theorem z_family (h : DrawOk fs) (h' : fs "_law_family" = some ⟨3, 10, b__law_family⟩) {most : Int} (hm : 1 ≤ most ∧ most ≤ 7) (hb : b ≤ 900000) (ht : Tz ns b S) :
    Wp (runF fs (k + 2) "_law_family" [lI ns, .cell 0, .int most] S) (fun d S' => ∃ n ss, d = fam n ss ∧ n ≤ most ∧ FamOk n ss ∧ Tz ns (b + 100) S') := by
  obtain ⟨T, ht⟩ := ht
  refine (r_family h h' hm hb ht).mono fun d S' hd => ?_
  obtain ⟨n, ss, e, h1, h2, h3⟩ := hd
  exact ⟨n, ss, e, h1, h2, T, h3⟩
theorem z_hues (h : DrawOk fs) (h' : fs "_law_hues" = some ⟨3, 4, b__law_hues⟩) {n : Int} (hn : 1 ≤ n ∧ n ≤ 7) (hb : b ≤ 900000) (ht : Tz ns b S) :
    Wp (runF fs (k + 2) "_law_hues" [lI ns, .cell 0, .int n] S) (fun d S' => ∃ c, d = tI c ∧ hueOk n c ∧ Tz ns (b + 7) S') := by
  obtain ⟨T, ht⟩ := ht
  refine (r_hues h h' hn hb ht).mono fun d S' hd => ?_
  obtain ⟨c, e, h1, h2⟩ := hd
  exact ⟨c, e, h1, T, h2⟩
end
end LC

end
section
set_option maxHeartbeats 0
namespace LC
open PySem PySem.Spec PyProof.Rows L2
/-! the defs of the text -/
def b__law_call : LB :=
  (.cons (.ret (.call "lot_uneven" (.cons (.idx (.var 1) (.cst (.int 0))) (.cons (.idx (.var 1) (.cst (.int 1))) .nil))))
    .nil)
def b_law_1 : LB :=
  (.cons (.set 7 (.call "_law_draw" (.cons (.var 0) (.cons (.var 1) (.cons (.blt .len (.cons (.var 3) .nil)) .nil)))))
    (.cons (.ifs (.cmp .NotEq (.call "lot_uneven" (.cons (.var 2) (.cons (.idx (.var 3) (.var 7)) .nil))) (.idx (.var 4) (.var 7))) (.cons (.ret (.cst (.bl false)))
    .nil) .nil)
    .nil))
def b_law_t11 : LB :=
  (.cons (.ifs (.cmp .NotEq (.call "lot_uneven" (.cons (.var 2) (.cons (.rngT1 (.idx (.var 2) (.cst (.int 0)))) .nil))) (.call "least_uneven" (.cons (.var 2) .nil))) (.cons (.ret (.cst (.bl false)))
    .nil) .nil)
    (.cons (.set 10 (.lst (.cons (.cst .non) (.cons (.tup .nil) (.cons (.tup (.cons (.idx (.var 2) (.cst (.int 0))) .nil)) (.cons (.tup (.cons (.neg (.cst (.int 1))) .nil)) (.cons (.lst (.cons (.cst (.int 0)) .nil)) (.cons (.tup (.cons (.cst (.bl true)) .nil)) (.cons (.tup (.cons (.cst (.int 0)) (.cons (.cst (.int 0)) .nil))) (.cons (.tup (.cons (.cst (.str "0")) .nil)) .nil))))))))))
    (.cons (.ret (.cmp .Eq (.lc [11] (.of (.var 10)) (.nm 11) (.some (.cmp .NotEq (.call "_law_outcome" (.cons (.cst (.int 0)) (.cons (.tup (.cons (.var 2) (.cons (.var 11) .nil))) .nil))) (.call "_law_raises" (.cons (.cst (.str "lot")) .nil)))) (.var 11)) (.lst .nil)))
    .nil)))
def b_law_t10 : LB :=
  (.cons (.ifs (.cmp .IsNot (.var 9) (.cst .non)) (.cons (.ifs (.bop false (.cons (.cmp .Gt (.idx (.call "worst_lot" (.cons (.var 9) .nil)) (.cst (.int 0))) (.var 8)) (.cons (.cmp .NotEq (.call "least_uneven" (.cons (.var 9) .nil)) (.call "lot_uneven" (.cons (.var 2) (.cons (.var 5) .nil)))) .nil))) (.cons (.ret (.cst (.bl false)))
    .nil) .nil)
    .nil) .nil)
    b_law_t11)
def b_law_t5 : LB :=
  (.cons (.set 8 (.blt .max (.cons (.var 4) .nil)))
    (.cons (.ifs (.cmp .NotEq (.call "worst_lot" (.cons (.var 2) .nil)) (.tup (.cons (.var 8) (.cons (.idx (.var 3) (.lm .index (.var 4) (.var 8))) .nil)))) (.cons (.ret (.cst (.bl false)))
    .nil) .nil)
    (.cons (.ifs (.bop false (.cons (.cmp .NotEq (.call "is_always_even" (.cons (.var 2) .nil)) (.cmp .LtE (.var 8) (.cst (.int 1)))) (.cons (.cmp .Gt (.call "least_uneven" (.cons (.var 2) .nil)) (.var 8)) .nil))) (.cons (.ret (.cst (.bl false)))
    .nil) .nil)
    (.cons (.set 5 (.call "_law_pick" (.cons (.var 0) (.cons (.var 1) (.cons (.var 3) .nil)))))
    (.cons (.set 9 (.call "within" (.cons (.var 2) (.cons (.var 5) .nil))))
    b_law_t10)))))
def b_law_t4 : LB :=
  (.cons (.for_ (.rng (.cons (.cst (.int 4)) .nil)) (.nm 6) b_law_1)
    b_law_t5)
def b_law : LB :=
  (.cons (.set 1 (.call "_law_town" (.cons (.var 0) .nil)))
    (.cons (.set 2 (.call "_law_family" (.cons (.var 0) (.cons (.var 1) (.cons (.call "_law_pick" (.cons (.var 0) (.cons (.var 1) (.cons (.lst (.cons (.cst (.int 3)) (.cons (.cst (.int 4)) (.cons (.cst (.int 5)) (.cons (.cst (.int 6)) .nil))))) .nil)))) .nil)))))
    (.cons (.set 3 (.call "_law_lots" (.cons (.idx (.var 2) (.cst (.int 0))) .nil)))
    (.cons (.setLc 4 (.lc [5] (.of (.var 3)) (.nm 5) .none (.call "_law_least" (.cons (.var 2) (.cons (.var 5) .nil)))))
    b_law_t4))))
def top (i : Nat) : Stmt := PySem.Challenge.pw_lotcolours_k40_whole_lots.main.body.getD i (.Pass ⟨0, 0, 0, 0⟩)
def tab : List En := [
  ⟨"is_between", ⟨3, 3, b_is_between⟩, ["value", "low", "high"], 18⟩,
  ⟨"is_lot", ⟨2, 4, b_is_lot⟩, ["things", "value", "one", "k"], 20⟩,
  ⟨"is_family", ⟨1, 5, b_is_family⟩, ["value", "things", "sets", "one", "k"], 21⟩,
  ⟨"check_family", ⟨1, 1, b_check_family⟩, ["value"], 22⟩,
  ⟨"check_lot", ⟨2, 2, b_check_lot⟩, ["family", "value"], 23⟩,
  ⟨"found_within", ⟨2, 8, b_found_within⟩, ["family", "lot", "places", "found", "k", "thing", "things", "one"], 24⟩,
  ⟨"within", ⟨2, 2, b_within⟩, ["family", "lot"], 25⟩,
  ⟨"found_sums", ⟨2, 4, b_found_sums⟩, ["family", "colours", "thing", "one"], 27⟩,
  ⟨"found_uneven", ⟨2, 3, b_found_uneven⟩, ["family", "colours", "one"], 28⟩,
  ⟨"all_colours", ⟨1, 5, b_all_colours⟩, ["things", "rows", "thing", "row", "one"], 29⟩,
  ⟨"found_least", ⟨1, 2, b_found_least⟩, ["family", "colours"], 30⟩,
  ⟨"least_uneven", ⟨1, 1, b_least_uneven⟩, ["family"], 31⟩,
  ⟨"some_numbers", ⟨2, 6, b_some_numbers⟩, ["many", "size", "rows", "time", "row", "one"], 33⟩,
  ⟨"found_lot_uneven", ⟨2, 3, b_found_lot_uneven⟩, ["family", "lot", "found"], 34⟩,
  ⟨"lot_uneven", ⟨2, 2, b_lot_uneven⟩, ["family", "lot"], 35⟩,
  ⟨"worst_lot", ⟨1, 6, b_worst_lot⟩, ["family", "best", "found", "size", "lot", "one"], 36⟩,
  ⟨"is_always_even", ⟨1, 1, b_is_always_even⟩, ["family"], 37⟩,
  ⟨"_law_town", ⟨1, 1, b__law_town⟩, ["_law_script"], 39⟩,
  ⟨"_law_draw", ⟨3, 6, b__law_draw⟩, ["_law_script", "_law_town_here", "_law_limit", "_law_at", "_law_left", "_law_number"], 40⟩,
  ⟨"_law_pick", ⟨3, 3, b__law_pick⟩, ["_law_script", "_law_town_here", "_law_choices"], 41⟩,
  ⟨"_law_outcome", ⟨2, 5, b__law_outcome⟩, ["_law_how", "_law_arguments", "_law_caught", "_law_result", "error"], 42⟩,
  ⟨"_law_name", ⟨1, 2, b__law_name⟩, ["_law_caught", "_law_found"], 43⟩,
  ⟨"_law_raises", ⟨1, 2, b__law_raises⟩, ["_law_name_here", "_law_some"], 44⟩,
  ⟨"_law_family", ⟨3, 10, b__law_family⟩, ["_law_script", "_law_town_here", "_law_most", "_law_things", "_law_found", "_law_often", "_law_is_paired", "_law_turn", "_law_k", "_law_one"], 45⟩,
  ⟨"_law_all", ⟨2, 7, b__law_all⟩, ["_law_things", "_law_choices", "_law_rows", "_law_turn", "_law_longer", "_law_row", "_law_one"], 46⟩,
  ⟨"_law_lots", ⟨1, 5, b__law_lots⟩, ["_law_things", "_law_found", "_law_k", "_law_lot", "_law_size"], 47⟩,
  ⟨"_law_call", ⟨2, 2, b__law_call⟩, ["_law_how", "_law_arguments"], 48⟩,
  ⟨"_law_least", ⟨2, 9, b__law_least⟩, ["_law_family_here", "_law_lot", "_law_some", "_law_k", "_law_one", "_law_best", "_law_row", "_law_table", "_law_part"], 49⟩,
  ⟨"law", ⟨1, 12, b_law⟩, ["_law_script", "_law_town_here", "_law_family_here", "_law_lots_now", "_law_sizes", "_law_lot", "_law_turn", "_law_k", "_law_worst_one", "_law_small", "_law_bads", "_law_bad"], 50⟩]
def frees : List Str := ["enumerate", "zip", "set", "ValueError", "isinstance", "len", "all", "sum", "max", "min", "sorted", "tuple", "list", "int", "abs", "range", "bool", "dict"]
def excs : List Str := ["InvalidFamily", "InvalidLot"]
def exs : Ex := ⟨["InvalidFamily", "InvalidColours", "InvalidNumber", "InvalidLot", "InvalidTold", "InvalidRounding", "InvalidSet", "InvalidNames", "InvalidMixture", "InvalidSums", "InvalidBottom", "InvalidText", "LastOne", "TooMany", "NothingToUndo"], ["InvalidFamily", "InvalidColours", "InvalidNumber", "InvalidLot", "InvalidTold", "InvalidRounding", "InvalidSet", "InvalidNames", "InvalidMixture", "InvalidSums", "InvalidBottom", "InvalidText", "LastOne", "TooMany", "NothingToUndo"]⟩
theorem chk : chkAll top tab frees excs exs = true := by decide +kernel

end LC

end
section
set_option maxHeartbeats 4000000
/-! P40: law k40. -/
namespace LC
open PySem PySem.Spec PyProof.Rows L2
theorem has : HasW (fsOf tab) where
  bet := by rfl
  lot := by rfl
  fam := by rfl
  chk := by rfl
  sums := by rfl
  unev := by rfl
  allc := by rfl
  flst := by rfl
  chl := by rfl
  fwi := by rfl
  som := by rfl
  flu := by rfl
  wor := by rfl
  alw := by rfl
theorem hasO : HasO (fsOf tab) := ⟨by rfl, by rfl, by rfl⟩
theorem drw : DrawOk (fsOf tab) := by rfl
section
variable {k : Nat} {S : Store} {n : Int} {ss : List (List Int)}
theorem l_least (F : FamOk n ss) : runF (fsOf tab) (k + 5) "least_uneven" [fam n ss] S = .ok (.int (least n.toNat ss)) S := by
  rw [rf_eq (F := ⟨1, 1, b_least_uneven⟩) (by rfl)]
  simp only [b_least_uneven, e_var, e_cst, e_ty, e_gfn, e_bin, e_cmp, e_chn, e_neg, e_nt, e_one, e_and, e_or, e_ite, e_tup, e_lst, e_idx, e_slc, o_none, o_some, e_call, e_blt, e_isi, a_nil, a_cons, i_of, i_rng, c_none, c_some, s_set, s_setLc, s_asg, s_par, s_stI, s_ex, s_ret, s_if, s_rai, s_pass, b_nil, b_cons, M.opt_some, R.bind_ok, R.bind_exc, getE_0, getE_s, List.map_cons, List.map_nil, List.cons_append, List.nil_append, List.length_cons, List.length_nil, List.replicate_succ, List.replicate_zero, Nat.reduceSub, Nat.reduceAdd, List.set_cons_zero, List.set_cons_succ, Option.map_some, BT.nm, wipeE, seqK_n, seqK_r, andK_t, andK_f, orK_f, orK_t, iteK_t, iteK_f, asgK_nm, asgK_t2, asgK_t3, endF_n, endF_r, slI_i, toBl_b, vw_i, vw_b, vw_t, vw_tI, vw_tT, vw_l, vw_s, vw_n, vw_ty, src_t, src_tI, src_tT, src_l, bin_add, bin_sub, neg_i, not_b, R.bind_assoc, e_isx, e_isv, e_lm, e_rngT1, e_rngT2, e_dget, e_din, e_dict, e_dictZ, e_callC, i_enm, s_app, seeL_l, lmK_l, enmK_t, e_lstC, e_addC]
  rw [r_check_family has.toHasF F]
  simp only [e_var, e_cst, e_ty, e_gfn, e_bin, e_cmp, e_chn, e_neg, e_nt, e_one, e_and, e_or, e_ite, e_tup, e_lst, e_idx, e_slc, o_none, o_some, e_call, e_blt, e_isi, a_nil, a_cons, i_of, i_rng, c_none, c_some, s_set, s_setLc, s_asg, s_par, s_stI, s_ex, s_ret, s_if, s_rai, s_pass, b_nil, b_cons, M.opt_some, R.bind_ok, R.bind_exc, getE_0, getE_s, List.map_cons, List.map_nil, List.cons_append, List.nil_append, List.length_cons, List.length_nil, List.replicate_succ, List.replicate_zero, Nat.reduceSub, Nat.reduceAdd, List.set_cons_zero, List.set_cons_succ, Option.map_some, BT.nm, wipeE, seqK_n, seqK_r, andK_t, andK_f, orK_f, orK_t, iteK_t, iteK_f, asgK_nm, asgK_t2, asgK_t3, endF_n, endF_r, slI_i, toBl_b, vw_i, vw_b, vw_t, vw_tI, vw_tT, vw_l, vw_s, vw_n, vw_ty, src_t, src_tI, src_tT, src_l, bin_add, bin_sub, neg_i, not_b, R.bind_assoc, e_isx, e_isv, e_lm, e_rngT1, e_rngT2, e_dget, e_din, e_dict, e_dictZ, e_callC, i_enm, s_app, seeL_l, lmK_l, enmK_t, e_lstC, e_addC]
  rw [r_least has.toHasC F]
  simp only [e_var, e_cst, e_ty, e_gfn, e_bin, e_cmp, e_chn, e_neg, e_nt, e_one, e_and, e_or, e_ite, e_tup, e_lst, e_idx, e_slc, o_none, o_some, e_call, e_blt, e_isi, a_nil, a_cons, i_of, i_rng, c_none, c_some, s_set, s_setLc, s_asg, s_par, s_stI, s_ex, s_ret, s_if, s_rai, s_pass, b_nil, b_cons, M.opt_some, R.bind_ok, R.bind_exc, getE_0, getE_s, List.map_cons, List.map_nil, List.cons_append, List.nil_append, List.length_cons, List.length_nil, List.replicate_succ, List.replicate_zero, Nat.reduceSub, Nat.reduceAdd, List.set_cons_zero, List.set_cons_succ, Option.map_some, BT.nm, wipeE, seqK_n, seqK_r, andK_t, andK_f, orK_f, orK_t, iteK_t, iteK_f, asgK_nm, asgK_t2, asgK_t3, endF_n, endF_r, slI_i, toBl_b, vw_i, vw_b, vw_t, vw_tI, vw_tT, vw_l, vw_s, vw_n, vw_ty, src_t, src_tI, src_tT, src_l, bin_add, bin_sub, neg_i, not_b, R.bind_assoc, e_isx, e_isv, e_lm, e_rngT1, e_rngT2, e_dget, e_din, e_dict, e_dictZ, e_callC, i_enm, s_app, seeL_l, lmK_l, enmK_t, e_lstC, e_addC]
def bads (n : Int) : List D := [.non, .tup [], .tup [.int n], .tup [.int (-1)], .lst [.int 0], .tup [.bl true], .tup [.int 0, .int 0], .tup [.str "0"]]
theorem bad_lot (hn : 1 ≤ n ∧ n ≤ 7) (d : D) (hd : d ∈ bads n) : runF (fsOf tab) (k + 3) "is_lot" [.int n, d] S = .ok (.bl false) S := by
  have h7 : n = 1 ∨ n = 2 ∨ n = 3 ∨ n = 4 ∨ n = 5 ∨ n = 6 ∨ n = 7 := by omega
  simp only [bads, List.mem_cons, List.not_mem_nil, or_false] at hd
  rcases h7 with rfl | rfl | rfl | rfl | rfl | rfl | rfl <;> rcases hd with rfl | rfl | rfl | rfl | rfl | rfl | rfl | rfl <;> kernel_rfl
theorem out_bad (F : FamOk n ss) (d : D) (hd : d ∈ bads n) : runF (fsOf tab) (k + 8) "_law_outcome" [.int 0, .tup [fam n ss, d]] S = .ok (raised 3) S := by
  refine r_out_exc hasO (i := 3) (by decide) ?_
  rw [rf_eq (F := ⟨2, 2, b__law_call⟩) (by rfl)]
  simp only [b__law_call, e_var, e_cst, e_ty, e_gfn, e_bin, e_cmp, e_chn, e_neg, e_nt, e_one, e_and, e_or, e_ite, e_tup, e_lst, e_idx, e_slc, o_none, o_some, e_call, e_blt, e_isi, a_nil, a_cons, i_of, i_rng, c_none, c_some, s_set, s_setLc, s_asg, s_par, s_stI, s_ex, s_ret, s_if, s_rai, s_pass, b_nil, b_cons, M.opt_some, R.bind_ok, R.bind_exc, getE_0, getE_s, List.map_cons, List.map_nil, List.cons_append, List.nil_append, List.length_cons, List.length_nil, List.replicate_succ, List.replicate_zero, Nat.reduceSub, Nat.reduceAdd, List.set_cons_zero, List.set_cons_succ, Option.map_some, BT.nm, wipeE, seqK_n, seqK_r, andK_t, andK_f, orK_f, orK_t, iteK_t, iteK_f, asgK_nm, asgK_t2, asgK_t3, endF_n, endF_r, slI_i, toBl_b, vw_i, vw_b, vw_t, vw_tI, vw_tT, vw_l, vw_s, vw_n, vw_ty, src_t, src_tI, src_tT, src_l, bin_add, bin_sub, neg_i, not_b, R.bind_assoc, e_isx, e_isv, e_lm, e_rngT1, e_rngT2, e_dget, e_din, e_dict, e_dictZ, e_callC, i_enm, s_app, seeL_l, lmK_l, enmK_t, e_lstC, e_addC, idx_t, atI_0, atI_1]
  rw [rf_eq (F := ⟨2, 2, b_lot_uneven⟩) (by rfl)]
  simp only [b_lot_uneven, e_var, e_cst, e_ty, e_gfn, e_bin, e_cmp, e_chn, e_neg, e_nt, e_one, e_and, e_or, e_ite, e_tup, e_lst, e_idx, e_slc, o_none, o_some, e_call, e_blt, e_isi, a_nil, a_cons, i_of, i_rng, c_none, c_some, s_set, s_setLc, s_asg, s_par, s_stI, s_ex, s_ret, s_if, s_rai, s_pass, b_nil, b_cons, M.opt_some, R.bind_ok, R.bind_exc, getE_0, getE_s, List.map_cons, List.map_nil, List.cons_append, List.nil_append, List.length_cons, List.length_nil, List.replicate_succ, List.replicate_zero, Nat.reduceSub, Nat.reduceAdd, List.set_cons_zero, List.set_cons_succ, Option.map_some, BT.nm, wipeE, seqK_n, seqK_r, andK_t, andK_f, orK_f, orK_t, iteK_t, iteK_f, asgK_nm, asgK_t2, asgK_t3, endF_n, endF_r, slI_i, toBl_b, vw_i, vw_b, vw_t, vw_tI, vw_tT, vw_l, vw_s, vw_n, vw_ty, src_t, src_tI, src_tT, src_l, bin_add, bin_sub, neg_i, not_b, R.bind_assoc, e_isx, e_isv, e_lm, e_rngT1, e_rngT2, e_dget, e_din, e_dict, e_dictZ, e_callC, i_enm, s_app, seeL_l, lmK_l, enmK_t, e_lstC, e_addC]
  rw [r_check_family has.toHasF F]
  simp only [e_var, e_cst, e_ty, e_gfn, e_bin, e_cmp, e_chn, e_neg, e_nt, e_one, e_and, e_or, e_ite, e_tup, e_lst, e_idx, e_slc, o_none, o_some, e_call, e_blt, e_isi, a_nil, a_cons, i_of, i_rng, c_none, c_some, s_set, s_setLc, s_asg, s_par, s_stI, s_ex, s_ret, s_if, s_rai, s_pass, b_nil, b_cons, M.opt_some, R.bind_ok, R.bind_exc, getE_0, getE_s, List.map_cons, List.map_nil, List.cons_append, List.nil_append, List.length_cons, List.length_nil, List.replicate_succ, List.replicate_zero, Nat.reduceSub, Nat.reduceAdd, List.set_cons_zero, List.set_cons_succ, Option.map_some, BT.nm, wipeE, seqK_n, seqK_r, andK_t, andK_f, orK_f, orK_t, iteK_t, iteK_f, asgK_nm, asgK_t2, asgK_t3, endF_n, endF_r, slI_i, toBl_b, vw_i, vw_b, vw_t, vw_tI, vw_tT, vw_l, vw_s, vw_n, vw_ty, src_t, src_tI, src_tT, src_l, bin_add, bin_sub, neg_i, not_b, R.bind_assoc, e_isx, e_isv, e_lm, e_rngT1, e_rngT2, e_dget, e_din, e_dict, e_dictZ, e_callC, i_enm, s_app, seeL_l, lmK_l, enmK_t, e_lstC, e_addC]
  rw [rf_eq has.chl]
  simp only [b_check_lot, e_var, e_cst, e_ty, e_gfn, e_bin, e_cmp, e_chn, e_neg, e_nt, e_one, e_and, e_or, e_ite, e_tup, e_lst, e_idx, e_slc, o_none, o_some, e_call, e_blt, e_isi, a_nil, a_cons, i_of, i_rng, c_none, c_some, s_set, s_setLc, s_asg, s_par, s_stI, s_ex, s_ret, s_if, s_rai, s_pass, b_nil, b_cons, M.opt_some, R.bind_ok, R.bind_exc, getE_0, getE_s, List.map_cons, List.map_nil, List.cons_append, List.nil_append, List.length_cons, List.length_nil, List.replicate_succ, List.replicate_zero, Nat.reduceSub, Nat.reduceAdd, List.set_cons_zero, List.set_cons_succ, Option.map_some, BT.nm, wipeE, seqK_n, seqK_r, andK_t, andK_f, orK_f, orK_t, iteK_t, iteK_f, asgK_nm, asgK_t2, asgK_t3, endF_n, endF_r, slI_i, toBl_b, vw_i, vw_b, vw_t, vw_tI, vw_tT, vw_l, vw_s, vw_n, vw_ty, src_t, src_tI, src_tT, src_l, bin_add, bin_sub, neg_i, not_b, R.bind_assoc, e_isx, e_isv, e_lm, e_rngT1, e_rngT2, e_dget, e_din, e_dict, e_dictZ, e_callC, i_enm, s_app, seeL_l, lmK_l, enmK_t, e_lstC, e_addC, fam, idx_t, atI_0]
  rw [bad_lot ⟨F.lo, F.hi⟩ d hd]
  simp only [e_var, e_cst, e_ty, e_gfn, e_bin, e_cmp, e_chn, e_neg, e_nt, e_one, e_and, e_or, e_ite, e_tup, e_lst, e_idx, e_slc, o_none, o_some, e_call, e_blt, e_isi, a_nil, a_cons, i_of, i_rng, c_none, c_some, s_set, s_setLc, s_asg, s_par, s_stI, s_ex, s_ret, s_if, s_rai, s_pass, b_nil, b_cons, M.opt_some, R.bind_ok, R.bind_exc, getE_0, getE_s, List.map_cons, List.map_nil, List.cons_append, List.nil_append, List.length_cons, List.length_nil, List.replicate_succ, List.replicate_zero, Nat.reduceSub, Nat.reduceAdd, List.set_cons_zero, List.set_cons_succ, Option.map_some, BT.nm, wipeE, seqK_n, seqK_r, andK_t, andK_f, orK_f, orK_t, iteK_t, iteK_f, asgK_nm, asgK_t2, asgK_t3, endF_n, endF_r, slI_i, toBl_b, vw_i, vw_b, vw_t, vw_tI, vw_tT, vw_l, vw_s, vw_n, vw_ty, src_t, src_tI, src_tT, src_l, bin_add, bin_sub, neg_i, not_b, R.bind_assoc, e_isx, e_isv, e_lm, e_rngT1, e_rngT2, e_dget, e_din, e_dict, e_dictZ, e_callC, i_enm, s_app, seeL_l, lmK_l, enmK_t, e_lstC, e_addC, Bool.not_false]
  rfl
end
def sizes (n : Int) (ss : List (List Int)) : List Int := (lotsP n.toNat).map fun L => lwv L ss
def envA (ns : List Int) (n : Int) (ss : List (List Int)) (t5 t6 t7 : Option D) : Env := [some (lI ns), some (.cell 0), some (fam n ss), some (.lst ((lotsP n.toNat).map tI)), some (.lst ((lotsP n.toNat).map fun L => D.int (lwv L ss))), t5, t6, t7, none, none, none, none]
theorem tail11 {ns : List Int} {n : Int} {ss : List (List Int)} (F : FamOk n ss) (t3 t4 t5 t6 t7 t8 t9 : Option D) (Sc : Store) : Wp ((exB (runF (fsOf tab) 11) b_law_t11 [some (lI ns), some (.cell 0), some (fam n ss), t3, t4, t5, t6, t7, t8, t9, none, none] Sc).bind endF) (fun d _ => d = .bl true) := by
  have hlo := F.lo
  have hhi := F.hi
  have hn : (n.toNat : Int) = n := by omega
  have i0 : idxD (fam n ss) (.int 0) = some (.int n) := by simp only [fam, idx_t, atI_0]
  have ef : ∀ S, vw S (fam n ss) = fam n ss := fun _ => rfl
  simp only [b_law_t11, e_var, e_cst, e_ty, e_gfn, e_bin, e_cmp, e_chn, e_neg, e_nt, e_one, e_and, e_or, e_ite, e_tup, e_lst, e_idx, e_slc, o_none, o_some, e_call, e_blt, e_isi, a_nil, a_cons, i_of, i_rng, c_none, c_some, s_set, s_setLc, s_asg, s_par, s_stI, s_ex, s_ret, s_if, s_rai, s_pass, b_nil, b_cons, M.opt_some, R.bind_ok, R.bind_exc, getE_0, getE_s, List.map_cons, List.map_nil, List.cons_append, List.nil_append, List.length_cons, List.length_nil, List.replicate_succ, List.replicate_zero, Nat.reduceSub, Nat.reduceAdd, List.set_cons_zero, List.set_cons_succ, Option.map_some, BT.nm, wipeE, seqK_n, seqK_r, andK_t, andK_f, orK_f, orK_t, iteK_t, iteK_f, asgK_nm, asgK_t2, asgK_t3, endF_n, endF_r, slI_i, toBl_b, vw_i, vw_b, vw_t, vw_tI, vw_tT, vw_l, vw_s, vw_n, vw_ty, src_t, src_tI, src_tT, src_l, bin_add, bin_sub, neg_i, not_b, R.bind_assoc, e_isx, e_isv, e_lm, e_rngT1, e_rngT2, e_dget, e_din, e_dict, e_dictZ, e_callC, i_enm, s_app, seeL_l, lmK_l, enmK_t, e_lstC, e_addC, ef, i0]
  rw [rngK1_i (by omega), rangeD_n]
  simp only [e_var, e_cst, e_ty, e_gfn, e_bin, e_cmp, e_chn, e_neg, e_nt, e_one, e_and, e_or, e_ite, e_tup, e_lst, e_idx, e_slc, o_none, o_some, e_call, e_blt, e_isi, a_nil, a_cons, i_of, i_rng, c_none, c_some, s_set, s_setLc, s_asg, s_par, s_stI, s_ex, s_ret, s_if, s_rai, s_pass, b_nil, b_cons, M.opt_some, R.bind_ok, R.bind_exc, getE_0, getE_s, List.map_cons, List.map_nil, List.cons_append, List.nil_append, List.length_cons, List.length_nil, List.replicate_succ, List.replicate_zero, Nat.reduceSub, Nat.reduceAdd, List.set_cons_zero, List.set_cons_succ, Option.map_some, BT.nm, wipeE, seqK_n, seqK_r, andK_t, andK_f, orK_f, orK_t, iteK_t, iteK_f, asgK_nm, asgK_t2, asgK_t3, endF_n, endF_r, slI_i, toBl_b, vw_i, vw_b, vw_t, vw_tI, vw_tT, vw_l, vw_s, vw_n, vw_ty, src_t, src_tI, src_tT, src_l, bin_add, bin_sub, neg_i, not_b, R.bind_assoc, e_isx, e_isv, e_lm, e_rngT1, e_rngT2, e_dget, e_din, e_dict, e_dictZ, e_callC, i_enm, s_app, seeL_l, lmK_l, enmK_t, e_lstC, e_addC]
  have hR : lotOk n ((List.range n.toNat).map fun i : Nat => (i : Int)) := by
    refine ⟨fun z => ?_, fun x hx => ?_, ?_⟩
    · have := congrArg List.length z
      simp at this
      omega
    · obtain ⟨i, hi, rfl⟩ := List.mem_map.mp hx
      have := List.mem_range.mp hi
      omega
    · rw [List.pairwise_map]
      exact List.pairwise_lt_range.imp fun h => by omega
  have eR : D.tup ((List.range n.toNat).map fun i : Nat => D.int (i : Int)) = tI ((List.range n.toNat).map fun i : Nat => (i : Int)) := by
    unfold tI
    rw [List.map_map]
    rfl
  rw [eR]
  obtain ⟨Sd, ed, gd⟩ := r_lot_uneven (k := 6) (S := Sc) has (by rfl) F hR
  rw [ed, lwv_range (n := n.toNat) (ss := ss) (by rw [hn]; exact F.lot)]
  simp only [e_var, e_cst, e_ty, e_gfn, e_bin, e_cmp, e_chn, e_neg, e_nt, e_one, e_and, e_or, e_ite, e_tup, e_lst, e_idx, e_slc, o_none, o_some, e_call, e_blt, e_isi, a_nil, a_cons, i_of, i_rng, c_none, c_some, s_set, s_setLc, s_asg, s_par, s_stI, s_ex, s_ret, s_if, s_rai, s_pass, b_nil, b_cons, M.opt_some, R.bind_ok, R.bind_exc, getE_0, getE_s, List.map_cons, List.map_nil, List.cons_append, List.nil_append, List.length_cons, List.length_nil, List.replicate_succ, List.replicate_zero, Nat.reduceSub, Nat.reduceAdd, List.set_cons_zero, List.set_cons_succ, Option.map_some, BT.nm, wipeE, seqK_n, seqK_r, andK_t, andK_f, orK_f, orK_t, iteK_t, iteK_f, asgK_nm, asgK_t2, asgK_t3, endF_n, endF_r, slI_i, toBl_b, vw_i, vw_b, vw_t, vw_tI, vw_tT, vw_l, vw_s, vw_n, vw_ty, src_t, src_tI, src_tT, src_l, bin_add, bin_sub, neg_i, not_b, R.bind_assoc, e_isx, e_isv, e_lm, e_rngT1, e_rngT2, e_dget, e_din, e_dict, e_dictZ, e_callC, i_enm, s_app, seeL_l, lmK_l, enmK_t, e_lstC, e_addC]
  rw [l_least F]
  simp only [e_var, e_cst, e_ty, e_gfn, e_bin, e_cmp, e_chn, e_neg, e_nt, e_one, e_and, e_or, e_ite, e_tup, e_lst, e_idx, e_slc, o_none, o_some, e_call, e_blt, e_isi, a_nil, a_cons, i_of, i_rng, c_none, c_some, s_set, s_setLc, s_asg, s_par, s_stI, s_ex, s_ret, s_if, s_rai, s_pass, b_nil, b_cons, M.opt_some, R.bind_ok, R.bind_exc, getE_0, getE_s, List.map_cons, List.map_nil, List.cons_append, List.nil_append, List.length_cons, List.length_nil, List.replicate_succ, List.replicate_zero, Nat.reduceSub, Nat.reduceAdd, List.set_cons_zero, List.set_cons_succ, Option.map_some, BT.nm, wipeE, seqK_n, seqK_r, andK_t, andK_f, orK_f, orK_t, iteK_t, iteK_f, asgK_nm, asgK_t2, asgK_t3, endF_n, endF_r, slI_i, toBl_b, vw_i, vw_b, vw_t, vw_tI, vw_tT, vw_l, vw_s, vw_n, vw_ty, src_t, src_tI, src_tT, src_l, bin_add, bin_sub, neg_i, not_b, R.bind_assoc, e_isx, e_isv, e_lm, e_rngT1, e_rngT2, e_dget, e_din, e_dict, e_dictZ, e_callC, i_enm, s_app, seeL_l, lmK_l, enmK_t, e_lstC, e_addC, cne_i, decide_true, Bool.not_true, ef, i0]
  rw [lcE_eq (bads n) id (fun _ => false) id (by
    rw [List.map_id]
    simp only [e_var, e_cst, e_ty, e_gfn, e_bin, e_cmp, e_chn, e_neg, e_nt, e_one, e_and, e_or, e_ite, e_tup, e_lst, e_idx, e_slc, o_none, o_some, e_call, e_blt, e_isi, a_nil, a_cons, i_of, i_rng, c_none, c_some, s_set, s_setLc, s_asg, s_par, s_stI, s_ex, s_ret, s_if, s_rai, s_pass, b_nil, b_cons, M.opt_some, R.bind_ok, R.bind_exc, getE_0, getE_s, List.map_cons, List.map_nil, List.cons_append, List.nil_append, List.length_cons, List.length_nil, List.replicate_succ, List.replicate_zero, Nat.reduceSub, Nat.reduceAdd, List.set_cons_zero, List.set_cons_succ, Option.map_some, BT.nm, wipeE, seqK_n, seqK_r, andK_t, andK_f, orK_f, orK_t, iteK_t, iteK_f, asgK_nm, asgK_t2, asgK_t3, endF_n, endF_r, slI_i, toBl_b, vw_i, vw_b, vw_t, vw_tI, vw_tT, vw_l, vw_s, vw_n, vw_ty, src_t, src_tI, src_tT, src_l, bin_add, bin_sub, neg_i, not_b, R.bind_assoc, e_isx, e_isv, e_lm, e_rngT1, e_rngT2, e_dget, e_din, e_dict, e_dictZ, e_callC, i_enm, s_app, seeL_l, lmK_l, enmK_t, e_lstC, e_addC, bads]) (fun d hd => ⟨_, rfl, by
    simp only [id, e_var, e_cst, e_ty, e_gfn, e_bin, e_cmp, e_chn, e_neg, e_nt, e_one, e_and, e_or, e_ite, e_tup, e_lst, e_idx, e_slc, o_none, o_some, e_call, e_blt, e_isi, a_nil, a_cons, i_of, i_rng, c_none, c_some, s_set, s_setLc, s_asg, s_par, s_stI, s_ex, s_ret, s_if, s_rai, s_pass, b_nil, b_cons, M.opt_some, R.bind_ok, R.bind_exc, getE_0, getE_s, List.map_cons, List.map_nil, List.cons_append, List.nil_append, List.length_cons, List.length_nil, List.replicate_succ, List.replicate_zero, Nat.reduceSub, Nat.reduceAdd, List.set_cons_zero, List.set_cons_succ, Option.map_some, BT.nm, wipeE, seqK_n, seqK_r, andK_t, andK_f, orK_f, orK_t, iteK_t, iteK_f, asgK_nm, asgK_t2, asgK_t3, endF_n, endF_r, slI_i, toBl_b, vw_i, vw_b, vw_t, vw_tI, vw_tT, vw_l, vw_s, vw_n, vw_ty, src_t, src_tI, src_tT, src_l, bin_add, bin_sub, neg_i, not_b, R.bind_assoc, e_isx, e_isv, e_lm, e_rngT1, e_rngT2, e_dget, e_din, e_dict, e_dictZ, e_callC, i_enm, s_app, seeL_l, lmK_l, enmK_t, e_lstC, e_addC]
    rw [out_bad F d hd]
    simp only [e_var, e_cst, e_ty, e_gfn, e_bin, e_cmp, e_chn, e_neg, e_nt, e_one, e_and, e_or, e_ite, e_tup, e_lst, e_idx, e_slc, o_none, o_some, e_call, e_blt, e_isi, a_nil, a_cons, i_of, i_rng, c_none, c_some, s_set, s_setLc, s_asg, s_par, s_stI, s_ex, s_ret, s_if, s_rai, s_pass, b_nil, b_cons, M.opt_some, R.bind_ok, R.bind_exc, getE_0, getE_s, List.map_cons, List.map_nil, List.cons_append, List.nil_append, List.length_cons, List.length_nil, List.replicate_succ, List.replicate_zero, Nat.reduceSub, Nat.reduceAdd, List.set_cons_zero, List.set_cons_succ, Option.map_some, BT.nm, wipeE, seqK_n, seqK_r, andK_t, andK_f, orK_f, orK_t, iteK_t, iteK_f, asgK_nm, asgK_t2, asgK_t3, endF_n, endF_r, slI_i, toBl_b, vw_i, vw_b, vw_t, vw_tI, vw_tT, vw_l, vw_s, vw_n, vw_ty, src_t, src_tI, src_tT, src_l, bin_add, bin_sub, neg_i, not_b, R.bind_assoc, e_isx, e_isv, e_lm, e_rngT1, e_rngT2, e_dget, e_din, e_dict, e_dictZ, e_callC, i_enm, s_app, seeL_l, lmK_l, enmK_t, e_lstC, e_addC]
    rw [rr_lot hasO]
    simp only [e_var, e_cst, e_ty, e_gfn, e_bin, e_cmp, e_chn, e_neg, e_nt, e_one, e_and, e_or, e_ite, e_tup, e_lst, e_idx, e_slc, o_none, o_some, e_call, e_blt, e_isi, a_nil, a_cons, i_of, i_rng, c_none, c_some, s_set, s_setLc, s_asg, s_par, s_stI, s_ex, s_ret, s_if, s_rai, s_pass, b_nil, b_cons, M.opt_some, R.bind_ok, R.bind_exc, getE_0, getE_s, List.map_cons, List.map_nil, List.cons_append, List.nil_append, List.length_cons, List.length_nil, List.replicate_succ, List.replicate_zero, Nat.reduceSub, Nat.reduceAdd, List.set_cons_zero, List.set_cons_succ, Option.map_some, BT.nm, wipeE, seqK_n, seqK_r, andK_t, andK_f, orK_f, orK_t, iteK_t, iteK_f, asgK_nm, asgK_t2, asgK_t3, endF_n, endF_r, slI_i, toBl_b, vw_i, vw_b, vw_t, vw_tI, vw_tT, vw_l, vw_s, vw_n, vw_ty, src_t, src_tI, src_tT, src_l, bin_add, bin_sub, neg_i, not_b, R.bind_assoc, e_isx, e_isv, e_lm, e_rngT1, e_rngT2, e_dget, e_din, e_dict, e_dictZ, e_callC, i_enm, s_app, seeL_l, lmK_l, enmK_t, e_lstC, e_addC]
    rw [show vw Sd (raised 3) = raised 3 from rfl, raised_ne]
    rfl, fun z => (by cases z)⟩)]
  rw [List.filter_eq_nil_iff.mpr (by simp)]
  simp only [e_var, e_cst, e_ty, e_gfn, e_bin, e_cmp, e_chn, e_neg, e_nt, e_one, e_and, e_or, e_ite, e_tup, e_lst, e_idx, e_slc, o_none, o_some, e_call, e_blt, e_isi, a_nil, a_cons, i_of, i_rng, c_none, c_some, s_set, s_setLc, s_asg, s_par, s_stI, s_ex, s_ret, s_if, s_rai, s_pass, b_nil, b_cons, M.opt_some, R.bind_ok, R.bind_exc, getE_0, getE_s, List.map_cons, List.map_nil, List.cons_append, List.nil_append, List.length_cons, List.length_nil, List.replicate_succ, List.replicate_zero, Nat.reduceSub, Nat.reduceAdd, List.set_cons_zero, List.set_cons_succ, Option.map_some, BT.nm, wipeE, seqK_n, seqK_r, andK_t, andK_f, orK_f, orK_t, iteK_t, iteK_f, asgK_nm, asgK_t2, asgK_t3, endF_n, endF_r, slI_i, toBl_b, vw_i, vw_b, vw_t, vw_tI, vw_tT, vw_l, vw_s, vw_n, vw_ty, src_t, src_tI, src_tT, src_l, bin_add, bin_sub, neg_i, not_b, R.bind_assoc, e_isx, e_isv, e_lm, e_rngT1, e_rngT2, e_dget, e_din, e_dict, e_dictZ, e_callC, i_enm, s_app, seeL_l, lmK_l, enmK_t, e_lstC, e_addC, List.map_nil]
  rfl
theorem law_ok (ns : List Int) (hns : ns.length ≤ 63) : ∃ S, runF (fsOf tab) 12 "law" [.lst (ns.map .int)] [] = .ok (.bl true) S := by
  have main : Wp (runF (fsOf tab) 12 "law" [lI ns] []) (fun d _ => d = .bl true) := by
    rw [rf_eq (F := ⟨1, 12, b_law⟩) (by rfl)]
    simp only [b_law, e_var, e_cst, e_ty, e_gfn, e_bin, e_cmp, e_chn, e_neg, e_nt, e_one, e_and, e_or, e_ite, e_tup, e_lst, e_idx, e_slc, o_none, o_some, e_call, e_blt, e_isi, a_nil, a_cons, i_of, i_rng, c_none, c_some, s_set, s_setLc, s_asg, s_par, s_stI, s_ex, s_ret, s_if, s_rai, s_pass, b_nil, b_cons, M.opt_some, R.bind_ok, R.bind_exc, getE_0, getE_s, List.map_cons, List.map_nil, List.cons_append, List.nil_append, List.length_cons, List.length_nil, List.replicate_succ, List.replicate_zero, Nat.reduceSub, Nat.reduceAdd, List.set_cons_zero, List.set_cons_succ, Option.map_some, BT.nm, wipeE, seqK_n, seqK_r, andK_t, andK_f, orK_f, orK_t, iteK_t, iteK_f, asgK_nm, asgK_t2, asgK_t3, endF_n, endF_r, slI_i, toBl_b, vw_i, vw_b, vw_t, vw_tI, vw_tT, vw_l, vw_s, vw_n, vw_ty, src_t, src_tI, src_tT, src_l, bin_add, bin_sub, neg_i, not_b, R.bind_assoc, e_isx, e_isv, e_lm, e_rngT1, e_rngT2, e_dget, e_din, e_dict, e_dictZ, e_callC, i_enm, s_app, seeL_l, lmK_l, enmK_t, e_lstC, e_addC]
    refine Wp.bind ((r_town (by rfl) hns).mono fun d S1 hd => ?_)
    obtain ⟨rfl, ht1⟩ := hd
    have ht1 : Tz ns 0 S1 := ⟨_, ht1⟩
    refine Wp.bind ((z_pick drw (by rfl) (l := [.int 3, .int 4, .int 5, .int 6]) (by simp) (by decide) (by omega) ht1).mono fun d S2 hd => ?_)
    obtain ⟨hm, ht2⟩ := hd
    obtain ⟨most, rfl, hm1, hm6⟩ : ∃ m : Int, d = .int m ∧ 1 ≤ m ∧ m ≤ 6 := by
      simp only [List.mem_cons, List.not_mem_nil, or_false] at hm
      rcases hm with rfl | rfl | rfl | rfl
      · exact ⟨3, rfl, by omega, by omega⟩
      · exact ⟨4, rfl, by omega, by omega⟩
      · exact ⟨5, rfl, by omega, by omega⟩
      · exact ⟨6, rfl, by omega, by omega⟩
    refine Wp.bind ((z_family drw (by rfl) (most := most) (by omega) (by omega) ht2).mono fun d S3 hd => ?_)
    obtain ⟨n, ss, rfl, hn6, F, ht3⟩ := hd
    have hlo := F.lo
    have hhi := F.hi
    have hn : (n.toNat : Int) = n := by omega
    have i0 : idxD (fam n ss) (.int 0) = some (.int n) := by simp only [fam, idx_t, atI_0]
    have ef : ∀ S, vw S (fam n ss) = fam n ss := fun _ => rfl
    simp only [e_var, e_cst, e_ty, e_gfn, e_bin, e_cmp, e_chn, e_neg, e_nt, e_one, e_and, e_or, e_ite, e_tup, e_lst, e_idx, e_slc, o_none, o_some, e_call, e_blt, e_isi, a_nil, a_cons, i_of, i_rng, c_none, c_some, s_set, s_setLc, s_asg, s_par, s_stI, s_ex, s_ret, s_if, s_rai, s_pass, b_nil, b_cons, M.opt_some, R.bind_ok, R.bind_exc, getE_0, getE_s, List.map_cons, List.map_nil, List.cons_append, List.nil_append, List.length_cons, List.length_nil, List.replicate_succ, List.replicate_zero, Nat.reduceSub, Nat.reduceAdd, List.set_cons_zero, List.set_cons_succ, Option.map_some, BT.nm, wipeE, seqK_n, seqK_r, andK_t, andK_f, orK_f, orK_t, iteK_t, iteK_f, asgK_nm, asgK_t2, asgK_t3, endF_n, endF_r, slI_i, toBl_b, vw_i, vw_b, vw_t, vw_tI, vw_tT, vw_l, vw_s, vw_n, vw_ty, src_t, src_tI, src_tT, src_l, bin_add, bin_sub, neg_i, not_b, R.bind_assoc, e_isx, e_isv, e_lm, e_rngT1, e_rngT2, e_dget, e_din, e_dict, e_dictZ, e_callC, i_enm, s_app, seeL_l, lmK_l, enmK_t, e_lstC, e_addC, ef, i0]
    have el := r_lots (fs := fsOf tab) (k := 10) (S := S3) (by rfl) (t := n.toNat) (by omega)
    rw [hn] at el
    rw [el]
    simp only [e_var, e_cst, e_ty, e_gfn, e_bin, e_cmp, e_chn, e_neg, e_nt, e_one, e_and, e_or, e_ite, e_tup, e_lst, e_idx, e_slc, o_none, o_some, e_call, e_blt, e_isi, a_nil, a_cons, i_of, i_rng, c_none, c_some, s_set, s_setLc, s_asg, s_par, s_stI, s_ex, s_ret, s_if, s_rai, s_pass, b_nil, b_cons, M.opt_some, R.bind_ok, R.bind_exc, getE_0, getE_s, List.map_cons, List.map_nil, List.cons_append, List.nil_append, List.length_cons, List.length_nil, List.replicate_succ, List.replicate_zero, Nat.reduceSub, Nat.reduceAdd, List.set_cons_zero, List.set_cons_succ, Option.map_some, BT.nm, wipeE, seqK_n, seqK_r, andK_t, andK_f, orK_f, orK_t, iteK_t, iteK_f, asgK_nm, asgK_t2, asgK_t3, endF_n, endF_r, slI_i, toBl_b, vw_i, vw_b, vw_t, vw_tI, vw_tT, vw_l, vw_s, vw_n, vw_ty, src_t, src_tI, src_tT, src_l, bin_add, bin_sub, neg_i, not_b, R.bind_assoc, e_isx, e_isv, e_lm, e_rngT1, e_rngT2, e_dget, e_din, e_dict, e_dictZ, e_callC, i_enm, s_app, seeL_l, lmK_l, enmK_t, e_lstC, e_addC]
    have hll := lots_len n.toNat (List.mem_range.mpr (by omega))
    have hlne := lotsP_ne (n := n.toNat) (by omega)
    obtain ⟨S4, e4, g4⟩ := lcE_grm (cf := runF (fsOf tab) 11) (ρ := [some (lI ns), some (.cell 0), some (fam n ss), some (.lst ((lotsP n.toNat).map tI)), none, none, none, none, none, none, none, none]) (S := S3) (S1 := S3) (vs := [5]) (s := .of (.var 3)) (tg := .nm 5) (e := .call "_law_least" (.cons (.var 2) (.cons (.var 5) .nil)))
      (lotsP n.toNat) tI (fun L => D.int (lwv L ss)) (by simp only [e_var, e_cst, e_ty, e_gfn, e_bin, e_cmp, e_chn, e_neg, e_nt, e_one, e_and, e_or, e_ite, e_tup, e_lst, e_idx, e_slc, o_none, o_some, e_call, e_blt, e_isi, a_nil, a_cons, i_of, i_rng, c_none, c_some, s_set, s_setLc, s_asg, s_par, s_stI, s_ex, s_ret, s_if, s_rai, s_pass, b_nil, b_cons, M.opt_some, R.bind_ok, R.bind_exc, getE_0, getE_s, List.map_cons, List.map_nil, List.cons_append, List.nil_append, List.length_cons, List.length_nil, List.replicate_succ, List.replicate_zero, Nat.reduceSub, Nat.reduceAdd, List.set_cons_zero, List.set_cons_succ, Option.map_some, BT.nm, wipeE, seqK_n, seqK_r, andK_t, andK_f, orK_f, orK_t, iteK_t, iteK_f, asgK_nm, asgK_t2, asgK_t3, endF_n, endF_r, slI_i, toBl_b, vw_i, vw_b, vw_t, vw_tI, vw_tT, vw_l, vw_s, vw_n, vw_ty, src_t, src_tI, src_tT, src_l, bin_add, bin_sub, neg_i, not_b, R.bind_assoc, e_isx, e_isv, e_lm, e_rngT1, e_rngT2, e_dget, e_din, e_dict, e_dictZ, e_callC, i_enm, s_app, seeL_l, lmK_l, enmK_t, e_lstC, e_addC]) (Gr.refl S3) (fun L hL S' hS => ⟨_, rfl, by
        have hL : lotOk n L := by have := mem_lotsP.mp hL; rw [hn] at this; exact this
        obtain ⟨S5, e5, g5⟩ := r_law_least (k := 9) (S := S') (fs := fsOf tab) (by rfl) (by rfl) F hL
        exact ⟨S5, by simp only [e_var, e_cst, e_ty, e_gfn, e_bin, e_cmp, e_chn, e_neg, e_nt, e_one, e_and, e_or, e_ite, e_tup, e_lst, e_idx, e_slc, o_none, o_some, e_call, e_blt, e_isi, a_nil, a_cons, i_of, i_rng, c_none, c_some, s_set, s_setLc, s_asg, s_par, s_stI, s_ex, s_ret, s_if, s_rai, s_pass, b_nil, b_cons, M.opt_some, R.bind_ok, R.bind_exc, getE_0, getE_s, List.map_cons, List.map_nil, List.cons_append, List.nil_append, List.length_cons, List.length_nil, List.replicate_succ, List.replicate_zero, Nat.reduceSub, Nat.reduceAdd, List.set_cons_zero, List.set_cons_succ, Option.map_some, BT.nm, wipeE, seqK_n, seqK_r, andK_t, andK_f, orK_f, orK_t, iteK_t, iteK_f, asgK_nm, asgK_t2, asgK_t3, endF_n, endF_r, slI_i, toBl_b, vw_i, vw_b, vw_t, vw_tI, vw_tT, vw_l, vw_s, vw_n, vw_ty, src_t, src_tI, src_tT, src_l, bin_add, bin_sub, neg_i, not_b, R.bind_assoc, e_isx, e_isv, e_lm, e_rngT1, e_rngT2, e_dget, e_din, e_dict, e_dictZ, e_callC, i_enm, s_app, seeL_l, lmK_l, enmK_t, e_lstC, e_addC, e5], g5⟩⟩)
    rw [e4]
    have ht4 := ht3.gr g4
    simp only [b_law_t4, e_var, e_cst, e_ty, e_gfn, e_bin, e_cmp, e_chn, e_neg, e_nt, e_one, e_and, e_or, e_ite, e_tup, e_lst, e_idx, e_slc, o_none, o_some, e_call, e_blt, e_isi, a_nil, a_cons, i_of, i_rng, c_none, c_some, s_set, s_setLc, s_asg, s_par, s_stI, s_ex, s_ret, s_if, s_rai, s_pass, b_nil, b_cons, M.opt_some, R.bind_ok, R.bind_exc, getE_0, getE_s, List.map_cons, List.map_nil, List.cons_append, List.nil_append, List.length_cons, List.length_nil, List.replicate_succ, List.replicate_zero, Nat.reduceSub, Nat.reduceAdd, List.set_cons_zero, List.set_cons_succ, Option.map_some, BT.nm, wipeE, seqK_n, seqK_r, andK_t, andK_f, orK_f, orK_t, iteK_t, iteK_f, asgK_nm, asgK_t2, asgK_t3, endF_n, endF_r, slI_i, toBl_b, vw_i, vw_b, vw_t, vw_tI, vw_tT, vw_l, vw_s, vw_n, vw_ty, src_t, src_tI, src_tT, src_l, bin_add, bin_sub, neg_i, not_b, R.bind_assoc, e_isx, e_isv, e_lm, e_rngT1, e_rngT2, e_dget, e_din, e_dict, e_dictZ, e_callC, i_enm, s_app, seeL_l, lmK_l, enmK_t, e_lstC, e_addC]
    -- four turns
    have turns := wpFn (cf := runF (fsOf tab) 11) (ρ := envA ns n ss none none none) (S := S4) (S1 := S4) (s := .rng (.cons (.cst (.int 4)) .nil)) (tg := .nm 6) (b := b_law_1) (List.range 4) (fun i : Nat => D.int (i : Int)) (by
        simp only [e_var, e_cst, e_ty, e_gfn, e_bin, e_cmp, e_chn, e_neg, e_nt, e_one, e_and, e_or, e_ite, e_tup, e_lst, e_idx, e_slc, o_none, o_some, e_call, e_blt, e_isi, a_nil, a_cons, i_of, i_rng, c_none, c_some, s_set, s_setLc, s_asg, s_par, s_stI, s_ex, s_ret, s_if, s_rai, s_pass, b_nil, b_cons, M.opt_some, R.bind_ok, R.bind_exc, getE_0, getE_s, List.map_cons, List.map_nil, List.cons_append, List.nil_append, List.length_cons, List.length_nil, List.replicate_succ, List.replicate_zero, Nat.reduceSub, Nat.reduceAdd, List.set_cons_zero, List.set_cons_succ, Option.map_some, BT.nm, wipeE, seqK_n, seqK_r, andK_t, andK_f, orK_f, orK_t, iteK_t, iteK_f, asgK_nm, asgK_t2, asgK_t3, endF_n, endF_r, slI_i, toBl_b, vw_i, vw_b, vw_t, vw_tI, vw_tT, vw_l, vw_s, vw_n, vw_ty, src_t, src_tI, src_tT, src_l, bin_add, bin_sub, neg_i, not_b, R.bind_assoc, e_isx, e_isv, e_lm, e_rngT1, e_rngT2, e_dget, e_din, e_dict, e_dictZ, e_callC, i_enm, s_app, seeL_l, lmK_l, enmK_t, e_lstC, e_addC]
        rw [rng_1 (by omega), rangeD_n]
        rfl) (fun i ρ S' => Tz ns (200 + i) S' ∧ ∃ t5 t6 t7, ρ = envA ns n ss t5 t6 t7) ⟨ht4.mono (by omega), none, none, none, rfl⟩ (fun i a ρ S' hx hI => by
        obtain ⟨ht, t5, t6, t7, rfl⟩ := hI
        have hi := (List.getElem?_eq_some_iff.mp hx).1
        rw [List.length_range] at hi
        refine ⟨_, rfl, ?_⟩
        have : (lotsP n.toNat).length ≠ 0 := fun z => hlne (List.length_eq_zero_iff.mp z)
        simp only [b_law_1, e_var, e_cst, e_ty, e_gfn, e_bin, e_cmp, e_chn, e_neg, e_nt, e_one, e_and, e_or, e_ite, e_tup, e_lst, e_idx, e_slc, o_none, o_some, e_call, e_blt, e_isi, a_nil, a_cons, i_of, i_rng, c_none, c_some, s_set, s_setLc, s_asg, s_par, s_stI, s_ex, s_ret, s_if, s_rai, s_pass, b_nil, b_cons, M.opt_some, R.bind_ok, R.bind_exc, getE_0, getE_s, List.map_cons, List.map_nil, List.cons_append, List.nil_append, List.length_cons, List.length_nil, List.replicate_succ, List.replicate_zero, Nat.reduceSub, Nat.reduceAdd, List.set_cons_zero, List.set_cons_succ, Option.map_some, BT.nm, wipeE, seqK_n, seqK_r, andK_t, andK_f, orK_f, orK_t, iteK_t, iteK_f, asgK_nm, asgK_t2, asgK_t3, endF_n, endF_r, slI_i, toBl_b, vw_i, vw_b, vw_t, vw_tI, vw_tT, vw_l, vw_s, vw_n, vw_ty, src_t, src_tI, src_tT, src_l, bin_add, bin_sub, neg_i, not_b, R.bind_assoc, e_isx, e_isv, e_lm, e_rngT1, e_rngT2, e_dget, e_din, e_dict, e_dictZ, e_callC, i_enm, s_app, seeL_l, lmK_l, enmK_t, e_lstC, e_addC, envA, len_l, List.length_map]
        refine Wp.bind ((z_draw drw (lim := (lotsP n.toNat).length) (by omega) (by omega) ht).mono fun d S6 hd => ?_)
        obtain ⟨v, rfl, v0, v1, ht6⟩ := hd
        have hv : v.toNat < (lotsP n.toNat).length := by omega
        have a1 : atI ((lotsP n.toNat).map tI) v = some (tI (lotsP n.toNat)[v.toNat]) := atI_of (j := v.toNat) (by omega) (by rw [List.getElem?_map, List.getElem?_eq_getElem hv]; rfl)
        have a2 : atI ((lotsP n.toNat).map fun L => D.int (lwv L ss)) v = some (.int (lwv (lotsP n.toNat)[v.toNat] ss)) := atI_of (j := v.toNat) (by omega) (by rw [List.getElem?_map, List.getElem?_eq_getElem hv]; rfl)
        have hL : lotOk n (lotsP n.toNat)[v.toNat] := by have := mem_lotsP.mp (List.getElem_mem hv); rw [hn] at this; exact this
        simp only [e_var, e_cst, e_ty, e_gfn, e_bin, e_cmp, e_chn, e_neg, e_nt, e_one, e_and, e_or, e_ite, e_tup, e_lst, e_idx, e_slc, o_none, o_some, e_call, e_blt, e_isi, a_nil, a_cons, i_of, i_rng, c_none, c_some, s_set, s_setLc, s_asg, s_par, s_stI, s_ex, s_ret, s_if, s_rai, s_pass, b_nil, b_cons, M.opt_some, R.bind_ok, R.bind_exc, getE_0, getE_s, List.map_cons, List.map_nil, List.cons_append, List.nil_append, List.length_cons, List.length_nil, List.replicate_succ, List.replicate_zero, Nat.reduceSub, Nat.reduceAdd, List.set_cons_zero, List.set_cons_succ, Option.map_some, BT.nm, wipeE, seqK_n, seqK_r, andK_t, andK_f, orK_f, orK_t, iteK_t, iteK_f, asgK_nm, asgK_t2, asgK_t3, endF_n, endF_r, slI_i, toBl_b, vw_i, vw_b, vw_t, vw_tI, vw_tT, vw_l, vw_s, vw_n, vw_ty, src_t, src_tI, src_tT, src_l, bin_add, bin_sub, neg_i, not_b, R.bind_assoc, e_isx, e_isv, e_lm, e_rngT1, e_rngT2, e_dget, e_din, e_dict, e_dictZ, e_callC, i_enm, s_app, seeL_l, lmK_l, enmK_t, e_lstC, e_addC, idx_l, a1]
        obtain ⟨S7, e7, g7⟩ := r_lot_uneven (k := 6) (S := S6) has (by rfl) F hL
        rw [e7]
        simp only [e_var, e_cst, e_ty, e_gfn, e_bin, e_cmp, e_chn, e_neg, e_nt, e_one, e_and, e_or, e_ite, e_tup, e_lst, e_idx, e_slc, o_none, o_some, e_call, e_blt, e_isi, a_nil, a_cons, i_of, i_rng, c_none, c_some, s_set, s_setLc, s_asg, s_par, s_stI, s_ex, s_ret, s_if, s_rai, s_pass, b_nil, b_cons, M.opt_some, R.bind_ok, R.bind_exc, getE_0, getE_s, List.map_cons, List.map_nil, List.cons_append, List.nil_append, List.length_cons, List.length_nil, List.replicate_succ, List.replicate_zero, Nat.reduceSub, Nat.reduceAdd, List.set_cons_zero, List.set_cons_succ, Option.map_some, BT.nm, wipeE, seqK_n, seqK_r, andK_t, andK_f, orK_f, orK_t, iteK_t, iteK_f, asgK_nm, asgK_t2, asgK_t3, endF_n, endF_r, slI_i, toBl_b, vw_i, vw_b, vw_t, vw_tI, vw_tT, vw_l, vw_s, vw_n, vw_ty, src_t, src_tI, src_tT, src_l, bin_add, bin_sub, neg_i, not_b, R.bind_assoc, e_isx, e_isv, e_lm, e_rngT1, e_rngT2, e_dget, e_din, e_dict, e_dictZ, e_callC, i_enm, s_app, seeL_l, lmK_l, enmK_t, e_lstC, e_addC, idx_l, a2, cne_i, decide_true, Bool.not_true]
        exact ⟨_, rfl, (ht6.gr g7).mono (by omega), _, _, _, rfl⟩)
    refine Wp.bind (turns.mono fun fl S5 hf => ?_)
    obtain ⟨ρ', rfl, ht5, t5, t6, t7, rfl⟩ := hf
    rw [List.length_range] at ht5
    simp only [b_law_t5, e_var, e_cst, e_ty, e_gfn, e_bin, e_cmp, e_chn, e_neg, e_nt, e_one, e_and, e_or, e_ite, e_tup, e_lst, e_idx, e_slc, o_none, o_some, e_call, e_blt, e_isi, a_nil, a_cons, i_of, i_rng, c_none, c_some, s_set, s_setLc, s_asg, s_par, s_stI, s_ex, s_ret, s_if, s_rai, s_pass, b_nil, b_cons, M.opt_some, R.bind_ok, R.bind_exc, getE_0, getE_s, List.map_cons, List.map_nil, List.cons_append, List.nil_append, List.length_cons, List.length_nil, List.replicate_succ, List.replicate_zero, Nat.reduceSub, Nat.reduceAdd, List.set_cons_zero, List.set_cons_succ, Option.map_some, BT.nm, wipeE, seqK_n, seqK_r, andK_t, andK_f, orK_f, orK_t, iteK_t, iteK_f, asgK_nm, asgK_t2, asgK_t3, endF_n, endF_r, slI_i, toBl_b, vw_i, vw_b, vw_t, vw_tI, vw_tT, vw_l, vw_s, vw_n, vw_ty, src_t, src_tI, src_tT, src_l, bin_add, bin_sub, neg_i, not_b, R.bind_assoc, e_isx, e_isv, e_lm, e_rngT1, e_rngT2, e_dget, e_din, e_dict, e_dictZ, e_callC, i_enm, s_app, seeL_l, lmK_l, enmK_t, e_lstC, e_addC, envA]
    rw [max_m _ _ hlne]
    simp only [e_var, e_cst, e_ty, e_gfn, e_bin, e_cmp, e_chn, e_neg, e_nt, e_one, e_and, e_or, e_ite, e_tup, e_lst, e_idx, e_slc, o_none, o_some, e_call, e_blt, e_isi, a_nil, a_cons, i_of, i_rng, c_none, c_some, s_set, s_setLc, s_asg, s_par, s_stI, s_ex, s_ret, s_if, s_rai, s_pass, b_nil, b_cons, M.opt_some, R.bind_ok, R.bind_exc, getE_0, getE_s, List.map_cons, List.map_nil, List.cons_append, List.nil_append, List.length_cons, List.length_nil, List.replicate_succ, List.replicate_zero, Nat.reduceSub, Nat.reduceAdd, List.set_cons_zero, List.set_cons_succ, Option.map_some, BT.nm, wipeE, seqK_n, seqK_r, andK_t, andK_f, orK_f, orK_t, iteK_t, iteK_f, asgK_nm, asgK_t2, asgK_t3, endF_n, endF_r, slI_i, toBl_b, vw_i, vw_b, vw_t, vw_tI, vw_tT, vw_l, vw_s, vw_n, vw_ty, src_t, src_tI, src_tT, src_l, bin_add, bin_sub, neg_i, not_b, R.bind_assoc, e_isx, e_isv, e_lm, e_rngT1, e_rngT2, e_dget, e_din, e_dict, e_dictZ, e_callC, i_enm, s_app, seeL_l, lmK_l, enmK_t, e_lstC, e_addC]
    obtain ⟨S6, e6, g6⟩ := r_worst (k := 6) (S := S5) has F
    rw [e6]
    have ht6 := ht5.gr g6
    have hmem : worstV n.toNat ss ∈ sizes n ss := (maxL_spec (by simpa [sizes] using hlne)).1
    have eM : maxL ((lotsP n.toNat).map fun L => lwv L ss) = worstV n.toNat ss := rfl
    have eI : fLM .index ((lotsP n.toNat).map fun L => D.int (lwv L ss)) (.int (worstV n.toNat ss)) = some (.int (ixo (sizes n ss) (worstV n.toNat ss) : Nat)) := by
      have := fLM_int (sizes n ss) (worstV n.toNat ss) hmem
      unfold sizes at this
      rw [List.map_map] at this
      exact this
    have hix : ixo (sizes n ss) (worstV n.toNat ss) < (lotsP n.toNat).length := by
      have := ixo_lt hmem
      unfold sizes at this
      rw [List.length_map] at this
      exact this
    have eL : atI ((lotsP n.toNat).map tI) ((ixo (sizes n ss) (worstV n.toNat ss) : Nat) : Int) = some (tI (worstL n.toNat ss)) := atI_of rfl (by
      rw [List.getElem?_map, List.getElem?_eq_getElem hix]
      show some (tI _) = some (tI ((lotsP n.toNat).getD (ixo (sizes n ss) (worstV n.toNat ss)) []))
      simp [List.getD, List.getElem?_eq_getElem hix])
    have sW : (D.tup [.int (worstV n.toNat ss), tI (worstL n.toNat ss)]).sh 60 = true := by
      rw [sh_t, shA_c, shA_c, sh_i, sh_tI, shA_0]
      rfl
    simp only [e_var, e_cst, e_ty, e_gfn, e_bin, e_cmp, e_chn, e_neg, e_nt, e_one, e_and, e_or, e_ite, e_tup, e_lst, e_idx, e_slc, o_none, o_some, e_call, e_blt, e_isi, a_nil, a_cons, i_of, i_rng, c_none, c_some, s_set, s_setLc, s_asg, s_par, s_stI, s_ex, s_ret, s_if, s_rai, s_pass, b_nil, b_cons, M.opt_some, R.bind_ok, R.bind_exc, getE_0, getE_s, List.map_cons, List.map_nil, List.cons_append, List.nil_append, List.length_cons, List.length_nil, List.replicate_succ, List.replicate_zero, Nat.reduceSub, Nat.reduceAdd, List.set_cons_zero, List.set_cons_succ, Option.map_some, BT.nm, wipeE, seqK_n, seqK_r, andK_t, andK_f, orK_f, orK_t, iteK_t, iteK_f, asgK_nm, asgK_t2, asgK_t3, endF_n, endF_r, slI_i, toBl_b, vw_i, vw_b, vw_t, vw_tI, vw_tT, vw_l, vw_s, vw_n, vw_ty, src_t, src_tI, src_tT, src_l, bin_add, bin_sub, neg_i, not_b, R.bind_assoc, e_isx, e_isv, e_lm, e_rngT1, e_rngT2, e_dget, e_din, e_dict, e_dictZ, e_callC, i_enm, s_app, seeL_l, lmK_l, enmK_t, e_lstC, e_addC, eM, eI, idx_l, eL, cne_self sW]
    obtain ⟨S7, e7, g7⟩ := r_always (k := 5) (S := S6) has F
    rw [e7]
    have ht7 := ht6.gr g7
    simp only [e_var, e_cst, e_ty, e_gfn, e_bin, e_cmp, e_chn, e_neg, e_nt, e_one, e_and, e_or, e_ite, e_tup, e_lst, e_idx, e_slc, o_none, o_some, e_call, e_blt, e_isi, a_nil, a_cons, i_of, i_rng, c_none, c_some, s_set, s_setLc, s_asg, s_par, s_stI, s_ex, s_ret, s_if, s_rai, s_pass, b_nil, b_cons, M.opt_some, R.bind_ok, R.bind_exc, getE_0, getE_s, List.map_cons, List.map_nil, List.cons_append, List.nil_append, List.length_cons, List.length_nil, List.replicate_succ, List.replicate_zero, Nat.reduceSub, Nat.reduceAdd, List.set_cons_zero, List.set_cons_succ, Option.map_some, BT.nm, wipeE, seqK_n, seqK_r, andK_t, andK_f, orK_f, orK_t, iteK_t, iteK_f, asgK_nm, asgK_t2, asgK_t3, endF_n, endF_r, slI_i, toBl_b, vw_i, vw_b, vw_t, vw_tI, vw_tT, vw_l, vw_s, vw_n, vw_ty, src_t, src_tI, src_tT, src_l, bin_add, bin_sub, neg_i, not_b, R.bind_assoc, e_isx, e_isv, e_lm, e_rngT1, e_rngT2, e_dget, e_din, e_dict, e_dictZ, e_callC, i_enm, s_app, seeL_l, lmK_l, enmK_t, e_lstC, e_addC, cmp_le]
    rw [cmp_ne (a := .bl _) (b := .bl _) rfl rfl, eqb_bl]
    have hle : least n.toNat ss ≤ worstV n.toNat ss := by
      have h1 := lwv_range (n := n.toNat) (ss := ss) (by rw [hn]; exact F.lot)
      rw [← h1]
      refine le_maxL (List.mem_map.mpr ⟨_, mem_lotsP.mpr ⟨?_, fun x hx => ?_, ?_⟩, rfl⟩)
      · intro z
        have := congrArg List.length z
        simp at this
        omega
      · obtain ⟨i, hi, rfl⟩ := List.mem_map.mp hx
        have := List.mem_range.mp hi
        omega
      · rw [List.pairwise_map]
        exact List.pairwise_lt_range.imp fun h => by omega
    simp only [e_var, e_cst, e_ty, e_gfn, e_bin, e_cmp, e_chn, e_neg, e_nt, e_one, e_and, e_or, e_ite, e_tup, e_lst, e_idx, e_slc, o_none, o_some, e_call, e_blt, e_isi, a_nil, a_cons, i_of, i_rng, c_none, c_some, s_set, s_setLc, s_asg, s_par, s_stI, s_ex, s_ret, s_if, s_rai, s_pass, b_nil, b_cons, M.opt_some, R.bind_ok, R.bind_exc, getE_0, getE_s, List.map_cons, List.map_nil, List.cons_append, List.nil_append, List.length_cons, List.length_nil, List.replicate_succ, List.replicate_zero, Nat.reduceSub, Nat.reduceAdd, List.set_cons_zero, List.set_cons_succ, Option.map_some, BT.nm, wipeE, seqK_n, seqK_r, andK_t, andK_f, orK_f, orK_t, iteK_t, iteK_f, asgK_nm, asgK_t2, asgK_t3, endF_n, endF_r, slI_i, toBl_b, vw_i, vw_b, vw_t, vw_tI, vw_tT, vw_l, vw_s, vw_n, vw_ty, src_t, src_tI, src_tT, src_l, bin_add, bin_sub, neg_i, not_b, R.bind_assoc, e_isx, e_isv, e_lm, e_rngT1, e_rngT2, e_dget, e_din, e_dict, e_dictZ, e_callC, i_enm, s_app, seeL_l, lmK_l, enmK_t, e_lstC, e_addC, decide_true, Bool.not_true]
    rw [l_least F]
    simp only [e_var, e_cst, e_ty, e_gfn, e_bin, e_cmp, e_chn, e_neg, e_nt, e_one, e_and, e_or, e_ite, e_tup, e_lst, e_idx, e_slc, o_none, o_some, e_call, e_blt, e_isi, a_nil, a_cons, i_of, i_rng, c_none, c_some, s_set, s_setLc, s_asg, s_par, s_stI, s_ex, s_ret, s_if, s_rai, s_pass, b_nil, b_cons, M.opt_some, R.bind_ok, R.bind_exc, getE_0, getE_s, List.map_cons, List.map_nil, List.cons_append, List.nil_append, List.length_cons, List.length_nil, List.replicate_succ, List.replicate_zero, Nat.reduceSub, Nat.reduceAdd, List.set_cons_zero, List.set_cons_succ, Option.map_some, BT.nm, wipeE, seqK_n, seqK_r, andK_t, andK_f, orK_f, orK_t, iteK_t, iteK_f, asgK_nm, asgK_t2, asgK_t3, endF_n, endF_r, slI_i, toBl_b, vw_i, vw_b, vw_t, vw_tI, vw_tT, vw_l, vw_s, vw_n, vw_ty, src_t, src_tI, src_tT, src_l, bin_add, bin_sub, neg_i, not_b, R.bind_assoc, e_isx, e_isv, e_lm, e_rngT1, e_rngT2, e_dget, e_din, e_dict, e_dictZ, e_callC, i_enm, s_app, seeL_l, lmK_l, enmK_t, e_lstC, e_addC, cmp_gt, decide_eq_false (show ¬ worstV n.toNat ss < least n.toNat ss by omega)]
    refine Wp.bind ((z_pick drw (by rfl) (l := (lotsP n.toNat).map tI) (by simpa using hlne) (by rw [List.length_map]; omega) (by omega) ht7).mono fun d S8 hd => ?_)
    obtain ⟨hL, ht8⟩ := hd
    obtain ⟨L, hL2, rfl⟩ := List.mem_map.mp hL
    have hL : lotOk n L := by have := mem_lotsP.mp hL2; rw [hn] at this; exact this
    obtain ⟨d9, hW, S9, e9, g9⟩ := r_within (k := 6) (S := S8) has.toHasL (by rfl) F hL
    rw [e9]
    have ht9 := ht8.gr g9
    simp only [e_var, e_cst, e_ty, e_gfn, e_bin, e_cmp, e_chn, e_neg, e_nt, e_one, e_and, e_or, e_ite, e_tup, e_lst, e_idx, e_slc, o_none, o_some, e_call, e_blt, e_isi, a_nil, a_cons, i_of, i_rng, c_none, c_some, s_set, s_setLc, s_asg, s_par, s_stI, s_ex, s_ret, s_if, s_rai, s_pass, b_nil, b_cons, M.opt_some, R.bind_ok, R.bind_exc, getE_0, getE_s, List.map_cons, List.map_nil, List.cons_append, List.nil_append, List.length_cons, List.length_nil, List.replicate_succ, List.replicate_zero, Nat.reduceSub, Nat.reduceAdd, List.set_cons_zero, List.set_cons_succ, Option.map_some, BT.nm, wipeE, seqK_n, seqK_r, andK_t, andK_f, orK_f, orK_t, iteK_t, iteK_f, asgK_nm, asgK_t2, asgK_t3, endF_n, endF_r, slI_i, toBl_b, vw_i, vw_b, vw_t, vw_tI, vw_tT, vw_l, vw_s, vw_n, vw_ty, src_t, src_tI, src_tT, src_l, bin_add, bin_sub, neg_i, not_b, R.bind_assoc, e_isx, e_isv, e_lm, e_rngT1, e_rngT2, e_dget, e_din, e_dict, e_dictZ, e_callC, i_enm, s_app, seeL_l, lmK_l, enmK_t, e_lstC, e_addC]
    have rest : ∀ Sc, Gr S9 Sc → Wp ((exB (runF (fsOf tab) 11) b_law_t11 [some (lI ns), some (.cell 0), some (fam n ss), some (.lst ((lotsP n.toNat).map tI)), some (.lst ((lotsP n.toNat).map fun L => D.int (lwv L ss))), some (tI L), t6, t7, some (.int (worstV n.toNat ss)), some d9, none, none] Sc).bind endF) (fun d _ => d = .bl true) := fun Sc _ => tail11 F _ _ _ _ _ _ _ Sc
    simp only [b_law_t10, e_var, e_cst, e_ty, e_gfn, e_bin, e_cmp, e_chn, e_neg, e_nt, e_one, e_and, e_or, e_ite, e_tup, e_lst, e_idx, e_slc, o_none, o_some, e_call, e_blt, e_isi, a_nil, a_cons, i_of, i_rng, c_none, c_some, s_set, s_setLc, s_asg, s_par, s_stI, s_ex, s_ret, s_if, s_rai, s_pass, b_nil, b_cons, M.opt_some, R.bind_ok, R.bind_exc, getE_0, getE_s, List.map_cons, List.map_nil, List.cons_append, List.nil_append, List.length_cons, List.length_nil, List.replicate_succ, List.replicate_zero, Nat.reduceSub, Nat.reduceAdd, List.set_cons_zero, List.set_cons_succ, Option.map_some, BT.nm, wipeE, seqK_n, seqK_r, andK_t, andK_f, orK_f, orK_t, iteK_t, iteK_f, asgK_nm, asgK_t2, asgK_t3, endF_n, endF_r, slI_i, toBl_b, vw_i, vw_b, vw_t, vw_tI, vw_tT, vw_l, vw_s, vw_n, vw_ty, src_t, src_tI, src_tT, src_l, bin_add, bin_sub, neg_i, not_b, R.bind_assoc, e_isx, e_isv, e_lm, e_rngT1, e_rngT2, e_dget, e_din, e_dict, e_dictZ, e_callC, i_enm, s_app, seeL_l, lmK_l, enmK_t, e_lstC, e_addC]
    rcases hW with ⟨rfl, h0⟩ | ⟨zs, rfl, F2, hWS⟩
    · simp only [e_var, e_cst, e_ty, e_gfn, e_bin, e_cmp, e_chn, e_neg, e_nt, e_one, e_and, e_or, e_ite, e_tup, e_lst, e_idx, e_slc, o_none, o_some, e_call, e_blt, e_isi, a_nil, a_cons, i_of, i_rng, c_none, c_some, s_set, s_setLc, s_asg, s_par, s_stI, s_ex, s_ret, s_if, s_rai, s_pass, b_nil, b_cons, M.opt_some, R.bind_ok, R.bind_exc, getE_0, getE_s, List.map_cons, List.map_nil, List.cons_append, List.nil_append, List.length_cons, List.length_nil, List.replicate_succ, List.replicate_zero, Nat.reduceSub, Nat.reduceAdd, List.set_cons_zero, List.set_cons_succ, Option.map_some, BT.nm, wipeE, seqK_n, seqK_r, andK_t, andK_f, orK_f, orK_t, iteK_t, iteK_f, asgK_nm, asgK_t2, asgK_t3, endF_n, endF_r, slI_i, toBl_b, vw_i, vw_b, vw_t, vw_tI, vw_tT, vw_l, vw_s, vw_n, vw_ty, src_t, src_tI, src_tT, src_l, bin_add, bin_sub, neg_i, not_b, R.bind_assoc, e_isx, e_isv, e_lm, e_rngT1, e_rngT2, e_dget, e_din, e_dict, e_dictZ, e_callC, i_enm, s_app, seeL_l, lmK_l, enmK_t, e_lstC, e_addC, show cmpB .IsNot .non .non = some (.bl false) from rfl]
      exact rest S9 (Gr.refl S9)
    · have ev : ∀ S, vw S (fam L.length zs) = fam L.length zs := fun _ => rfl
      simp only [e_var, e_cst, e_ty, e_gfn, e_bin, e_cmp, e_chn, e_neg, e_nt, e_one, e_and, e_or, e_ite, e_tup, e_lst, e_idx, e_slc, o_none, o_some, e_call, e_blt, e_isi, a_nil, a_cons, i_of, i_rng, c_none, c_some, s_set, s_setLc, s_asg, s_par, s_stI, s_ex, s_ret, s_if, s_rai, s_pass, b_nil, b_cons, M.opt_some, R.bind_ok, R.bind_exc, getE_0, getE_s, List.map_cons, List.map_nil, List.cons_append, List.nil_append, List.length_cons, List.length_nil, List.replicate_succ, List.replicate_zero, Nat.reduceSub, Nat.reduceAdd, List.set_cons_zero, List.set_cons_succ, Option.map_some, BT.nm, wipeE, seqK_n, seqK_r, andK_t, andK_f, orK_f, orK_t, iteK_t, iteK_f, asgK_nm, asgK_t2, asgK_t3, endF_n, endF_r, slI_i, toBl_b, vw_i, vw_b, vw_t, vw_tI, vw_tT, vw_l, vw_s, vw_n, vw_ty, src_t, src_tI, src_tT, src_l, bin_add, bin_sub, neg_i, not_b, R.bind_assoc, e_isx, e_isv, e_lm, e_rngT1, e_rngT2, e_dget, e_din, e_dict, e_dictZ, e_callC, i_enm, s_app, seeL_l, lmK_l, enmK_t, e_lstC, e_addC, ev, show cmpB .IsNot (fam L.length zs) .non = some (.bl true) from rfl]
      obtain ⟨Sa, ea, ga⟩ := r_worst (k := 6) (S := S9) has F2
      rw [ea]
      have hw : worstV L.length zs ≤ worstV n.toNat ss := by
        have l0 : L.length ≠ 0 := fun z => hL.1 (List.length_eq_zero_iff.mp z)
        have hne : (lotsP L.length).map (fun M => lwv M zs) ≠ [] := by simpa using lotsP_ne (n := L.length) (by omega)
        refine (maxL_le hne).mpr fun x hx => ?_
        obtain ⟨M, hM, rfl⟩ := List.mem_map.mp hx
        have hM := mem_lotsP.mp hM
        rw [lwv_pull hL hM hWS F2.ne]
        refine le_maxL (List.mem_map.mpr ⟨pull L M, mem_lotsP.mpr ?_, rfl⟩)
        rw [hn]
        exact pull_lot hL hM
      simp only [e_var, e_cst, e_ty, e_gfn, e_bin, e_cmp, e_chn, e_neg, e_nt, e_one, e_and, e_or, e_ite, e_tup, e_lst, e_idx, e_slc, o_none, o_some, e_call, e_blt, e_isi, a_nil, a_cons, i_of, i_rng, c_none, c_some, s_set, s_setLc, s_asg, s_par, s_stI, s_ex, s_ret, s_if, s_rai, s_pass, b_nil, b_cons, M.opt_some, R.bind_ok, R.bind_exc, getE_0, getE_s, List.map_cons, List.map_nil, List.cons_append, List.nil_append, List.length_cons, List.length_nil, List.replicate_succ, List.replicate_zero, Nat.reduceSub, Nat.reduceAdd, List.set_cons_zero, List.set_cons_succ, Option.map_some, BT.nm, wipeE, seqK_n, seqK_r, andK_t, andK_f, orK_f, orK_t, iteK_t, iteK_f, asgK_nm, asgK_t2, asgK_t3, endF_n, endF_r, slI_i, toBl_b, vw_i, vw_b, vw_t, vw_tI, vw_tT, vw_l, vw_s, vw_n, vw_ty, src_t, src_tI, src_tT, src_l, bin_add, bin_sub, neg_i, not_b, R.bind_assoc, e_isx, e_isv, e_lm, e_rngT1, e_rngT2, e_dget, e_din, e_dict, e_dictZ, e_callC, i_enm, s_app, seeL_l, lmK_l, enmK_t, e_lstC, e_addC, Int.toNat_natCast, idx_t, atI_0, cmp_gt, decide_eq_false (show ¬ worstV n.toNat ss < worstV L.length zs by omega)]
      rw [l_least F2]
      simp only [e_var, e_cst, e_ty, e_gfn, e_bin, e_cmp, e_chn, e_neg, e_nt, e_one, e_and, e_or, e_ite, e_tup, e_lst, e_idx, e_slc, o_none, o_some, e_call, e_blt, e_isi, a_nil, a_cons, i_of, i_rng, c_none, c_some, s_set, s_setLc, s_asg, s_par, s_stI, s_ex, s_ret, s_if, s_rai, s_pass, b_nil, b_cons, M.opt_some, R.bind_ok, R.bind_exc, getE_0, getE_s, List.map_cons, List.map_nil, List.cons_append, List.nil_append, List.length_cons, List.length_nil, List.replicate_succ, List.replicate_zero, Nat.reduceSub, Nat.reduceAdd, List.set_cons_zero, List.set_cons_succ, Option.map_some, BT.nm, wipeE, seqK_n, seqK_r, andK_t, andK_f, orK_f, orK_t, iteK_t, iteK_f, asgK_nm, asgK_t2, asgK_t3, endF_n, endF_r, slI_i, toBl_b, vw_i, vw_b, vw_t, vw_tI, vw_tT, vw_l, vw_s, vw_n, vw_ty, src_t, src_tI, src_tT, src_l, bin_add, bin_sub, neg_i, not_b, R.bind_assoc, e_isx, e_isv, e_lm, e_rngT1, e_rngT2, e_dget, e_din, e_dict, e_dictZ, e_callC, i_enm, s_app, seeL_l, lmK_l, enmK_t, e_lstC, e_addC, Int.toNat_natCast]
      obtain ⟨Sb, eb, gb⟩ := r_lot_uneven (k := 6) (S := Sa) has (by rfl) F hL
      rw [eb]
      simp only [e_var, e_cst, e_ty, e_gfn, e_bin, e_cmp, e_chn, e_neg, e_nt, e_one, e_and, e_or, e_ite, e_tup, e_lst, e_idx, e_slc, o_none, o_some, e_call, e_blt, e_isi, a_nil, a_cons, i_of, i_rng, c_none, c_some, s_set, s_setLc, s_asg, s_par, s_stI, s_ex, s_ret, s_if, s_rai, s_pass, b_nil, b_cons, M.opt_some, R.bind_ok, R.bind_exc, getE_0, getE_s, List.map_cons, List.map_nil, List.cons_append, List.nil_append, List.length_cons, List.length_nil, List.replicate_succ, List.replicate_zero, Nat.reduceSub, Nat.reduceAdd, List.set_cons_zero, List.set_cons_succ, Option.map_some, BT.nm, wipeE, seqK_n, seqK_r, andK_t, andK_f, orK_f, orK_t, iteK_t, iteK_f, asgK_nm, asgK_t2, asgK_t3, endF_n, endF_r, slI_i, toBl_b, vw_i, vw_b, vw_t, vw_tI, vw_tT, vw_l, vw_s, vw_n, vw_ty, src_t, src_tI, src_tT, src_l, bin_add, bin_sub, neg_i, not_b, R.bind_assoc, e_isx, e_isv, e_lm, e_rngT1, e_rngT2, e_dget, e_din, e_dict, e_dictZ, e_callC, i_enm, s_app, seeL_l, lmK_l, enmK_t, e_lstC, e_addC, cne_i, lwv_some hWS F2.ne, decide_true, Bool.not_true]
      exact rest Sb (ga.trans gb)
  obtain ⟨d, S, e, rfl⟩ := main.get
  exact ⟨S, e⟩
end LC

end
set_option maxHeartbeats 0
namespace LC
open PySem PySem.Spec PyProof.Rows L2
def fn : List He.DefD := tab.map (ddOf top)
def fa : List He.Fa := faOf tab frees excs exs
def exK : PySem.W.Frag → Bool := excsB exs.rs exs.nm topE
abbrev Rw : PySem.W.OpenRow := PySem.W.OpenLaw.row PySem.Challenge.rw_lotcolours_k40_whole_lots
abbrev hk : PySem.W.Hook := hookX 4 exK fa fn
def ob (s : PySem.W.SharedT) : Bool × He.AlD := obX 4 exK fa fn (HandSHeadRun.getT s)
theorem ob_eq (s : PySem.W.SharedT) : ob s = hk.obs s.abs := obX_eq (HandSHeadRun.getT_eq s)
def loose1 : List Str := [("is_between" : Str), ("is_lot" : Str), ("is_family" : Str), ("check_family" : Str), ("check_lot" : Str), ("found_within" : Str), ("within" : Str), ("found_sums" : Str), ("found_uneven" : Str), ("all_colours" : Str), ("found_least" : Str), ("least_uneven" : Str), ("some_numbers" : Str), ("found_lot_uneven" : Str), ("lot_uneven" : Str), ("worst_lot" : Str), ("is_always_even" : Str), ("_law_town" : Str), ("_law_draw" : Str), ("_law_pick" : Str), ("_law_outcome" : Str), ("_law_name" : Str), ("_law_raises" : Str), ("_law_family" : Str), ("_law_all" : Str), ("_law_lots" : Str), ("_law_call" : Str), ("_law_least" : Str), ("ColourError" : Str), ("InvalidFamily" : Str), ("InvalidColours" : Str), ("InvalidNumber" : Str), ("InvalidLot" : Str), ("InvalidTold" : Str), ("InvalidRounding" : Str), ("InvalidSet" : Str), ("InvalidNames" : Str), ("InvalidMixture" : Str), ("InvalidSums" : Str), ("InvalidBottom" : Str)]
def loose2 : List Str := [("InvalidText" : Str), ("LastOne" : Str), ("TooMany" : Str), ("NothingToUndo" : Str)]
theorem run (w : World) : HandSHeadRun.RunEq Rw (PySem.W.view Rw.prog [50]) hk ob 40000 (loose1 ++ loose2) w := by
  intro os
  kernel_rfl
end LC
open PySem PySem.W PySem.Calls PyProof.Rows
theorem PySem.Challenge.cw_lotcolours_k40_whole_lots_holds : PySem.Challenge.rw_lotcolours_k40_whole_lots.Holds := by
  w_on; o_law
  refine HandSHeadRun.head_any (r := OpenLaw.row PySem.Challenge.rw_lotcolours_k40_whole_lots) (q := view (OpenLaw.row PySem.Challenge.rw_lotcolours_k40_whole_lots).prog [50]) (H := LC.hk) (ob := LC.ob) (M := 40000) (loose := LC.loose1 ++ LC.loose2) (d := HandSHeadRun.topDef (OpenLaw.row PySem.Challenge.rw_lotcolours_k40_whole_lots).prog 50) (kwd := []) LC.ob_eq
    (by kernel_rfl) (fun s => by kernel_rfl) LC.run (by kernel_rfl) (by kernel_rfl) (by kernel_rfl) (by rfl) (by first | assumption | decide +kernel) (by decide +kernel) ⟨rfl, rfl, rfl, rfl, rfl, by decide +kernel⟩ ?hw ?hc
  case hw => w_witness2
  case hc =>
    refine LC.walk_end (l := PySem.Challenge.rw_lotcolours_k40_whole_lots) (n := 63) (k := 12) (x := "law") (top := LC.top) (t := LC.tab) (frees := LC.frees) (excs := LC.excs) (ex := LC.exs) (F := ⟨1, 12, LC.b_law⟩) rfl (by decide) (by kernel_rfl) ⟨rfl, by decide, by decide⟩ (by kernel_rfl) (by kernel_rfl) rfl (fun w h y => y) LC.chk LC.law_ok
